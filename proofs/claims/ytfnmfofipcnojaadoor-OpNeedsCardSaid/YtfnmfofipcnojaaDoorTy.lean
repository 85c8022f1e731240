/-
  What is known of the seat's types: an instance each (printed by gen_types.py).
-/
import Derived.Test.YtfnmfofipcnojaaDoorProg
import Derived.Test.YtfnmfofipcnojaaDoorSx
namespace Go.Proofs.YtfnmfofipcnojaaDoor
open Go.Sx
instance ty1 : Ty Tryd.prog 1 false [Value.nilFunc] := .mk' (v := Value.nilFunc) (k := 1) (by kernel_rfl) (by kernel_rfl) rfl rfl
instance ty2 : Ty Tryd.prog 2 false [Value.int .i64 0] := .mk' (v := Value.int .i64 0) (k := 1) (by kernel_rfl) (by kernel_rfl) rfl rfl
instance ty3 : Ty Tryd.prog 3 false [Value.int .i64 0] := .mk' (v := Value.int .i64 0) (k := 1) (by kernel_rfl) (by kernel_rfl) rfl rfl
instance ty4 : Ty Tryd.prog 4 false [Value.bool false] := .mk' (v := Value.bool false) (k := 1) (by kernel_rfl) (by kernel_rfl) rfl rfl
instance ty5 : Ty Tryd.prog 5 false [Value.int .u8 0] := .mk' (v := Value.int .u8 0) (k := 1) (by kernel_rfl) (by kernel_rfl) rfl rfl
instance ty6 : Ty Tryd.prog 6 false [Value.int .u8 0] := .mk' (v := Value.int .u8 0) (k := 1) (by kernel_rfl) (by kernel_rfl) rfl rfl
instance ty7 : Ty Tryd.prog 7 true [Value.int .i64 0, Value.int .i64 0, Value.bool false, Value.int .u8 0] := .mk' (v := .agg #[Value.int .i64 0, Value.int .i64 0, Value.bool false, Value.int .u8 0]) (k := 4) (by kernel_rfl) (by kernel_rfl) rfl rfl
instance ty8 : Ty Tryd.prog 8 true [Value.int .i64 0, Value.int .i64 0, Value.bool false, Value.int .u8 0] := .mk' (v := .agg #[Value.int .i64 0, Value.int .i64 0, Value.bool false, Value.int .u8 0]) (k := 4) (by kernel_rfl) (by kernel_rfl) rfl rfl
instance ty9 : Ty Tryd.prog 9 false [Value.string ⟨#[]⟩] := .mk' (v := Value.string ⟨#[]⟩) (k := 1) (by kernel_rfl) (by kernel_rfl) rfl rfl
instance ty10 : Ty Tryd.prog 10 false [Value.string ⟨#[]⟩] := .mk' (v := Value.string ⟨#[]⟩) (k := 1) (by kernel_rfl) (by kernel_rfl) rfl rfl
instance ty11 : Ty Tryd.prog 11 false [Value.string ⟨#[]⟩] := .mk' (v := Value.string ⟨#[]⟩) (k := 1) (by kernel_rfl) (by kernel_rfl) rfl rfl
instance ty12 : Ty Tryd.prog 12 false [Value.int .u64 0] := .mk' (v := Value.int .u64 0) (k := 1) (by kernel_rfl) (by kernel_rfl) rfl rfl
instance ty13 : Ty Tryd.prog 13 true [Value.string ⟨#[]⟩, Value.int .u64 0] := .mk' (v := .agg #[Value.string ⟨#[]⟩, Value.int .u64 0]) (k := 2) (by kernel_rfl) (by kernel_rfl) rfl rfl
instance ty14 : Ty Tryd.prog 14 true [Value.string ⟨#[]⟩, Value.int .u64 0] := .mk' (v := .agg #[Value.string ⟨#[]⟩, Value.int .u64 0]) (k := 2) (by kernel_rfl) (by kernel_rfl) rfl rfl
instance ty15 : Ty Tryd.prog 15 false [Value.pointer none] := .mk' (v := Value.pointer none) (k := 1) (by kernel_rfl) (by kernel_rfl) rfl rfl
instance ty16 : Ty Tryd.prog 16 false [Value.pointer none] := .mk' (v := Value.pointer none) (k := 1) (by kernel_rfl) (by kernel_rfl) rfl rfl
instance ty17 : Ty Tryd.prog 17 false [Value.pointer none] := .mk' (v := Value.pointer none) (k := 1) (by kernel_rfl) (by kernel_rfl) rfl rfl
instance ty18 : Ty Tryd.prog 18 true [Value.pointer none] := .mk' (v := .agg #[Value.pointer none]) (k := 1) (by kernel_rfl) (by kernel_rfl) rfl rfl
instance ty19 : Ty Tryd.prog 19 true [Value.pointer none] := .mk' (v := .agg #[Value.pointer none]) (k := 1) (by kernel_rfl) (by kernel_rfl) rfl rfl
instance ty20 : Ty Tryd.prog 20 false [Value.nilIface] := .mk' (v := Value.nilIface) (k := 1) (by kernel_rfl) (by kernel_rfl) rfl rfl
instance ty21 : Ty Tryd.prog 21 false [Value.int .i32 0] := .mk' (v := Value.int .i32 0) (k := 1) (by kernel_rfl) (by kernel_rfl) rfl rfl
instance ty22 : Ty Tryd.prog 22 true [Value.int .i64 0, Value.int .i64 0, Value.string ⟨#[]⟩] := .mk' (v := .agg #[Value.int .i64 0, Value.int .i64 0, Value.string ⟨#[]⟩]) (k := 3) (by kernel_rfl) (by kernel_rfl) rfl rfl
instance ty23 : Ty Tryd.prog 23 true [Value.int .i64 0, Value.int .i64 0, Value.string ⟨#[]⟩] := .mk' (v := .agg #[Value.int .i64 0, Value.int .i64 0, Value.string ⟨#[]⟩]) (k := 3) (by kernel_rfl) (by kernel_rfl) rfl rfl
instance ty24 : Ty Tryd.prog 24 true [Value.int .i64 0, Value.string ⟨#[]⟩, Value.int .i64 0, Value.int .i64 0, Value.string ⟨#[]⟩, Value.int .i64 0, Value.int .i64 0, Value.string ⟨#[]⟩, Value.int .i64 0] := .mk' (v := .agg #[Value.int .i64 0, Value.string ⟨#[]⟩, Value.int .i64 0, Value.int .i64 0, Value.string ⟨#[]⟩, Value.int .i64 0, Value.int .i64 0, Value.string ⟨#[]⟩, Value.int .i64 0]) (k := 9) (by kernel_rfl) (by kernel_rfl) rfl rfl
instance ty25 : Ty Tryd.prog 25 true [Value.int .i64 0, Value.string ⟨#[]⟩, Value.int .i64 0, Value.int .i64 0, Value.string ⟨#[]⟩, Value.int .i64 0, Value.int .i64 0, Value.string ⟨#[]⟩, Value.int .i64 0] := .mk' (v := .agg #[Value.int .i64 0, Value.string ⟨#[]⟩, Value.int .i64 0, Value.int .i64 0, Value.string ⟨#[]⟩, Value.int .i64 0, Value.int .i64 0, Value.string ⟨#[]⟩, Value.int .i64 0]) (k := 9) (by kernel_rfl) (by kernel_rfl) rfl rfl
instance ty26 : Ty Tryd.prog 26 false [Value.nilFunc] := .mk' (v := Value.nilFunc) (k := 1) (by kernel_rfl) (by kernel_rfl) rfl rfl
instance ty27 : Ty Tryd.prog 27 false [Value.slice none 0 0] := .mk' (v := Value.slice none 0 0) (k := 1) (by kernel_rfl) (by kernel_rfl) rfl rfl
instance ty28 : Ty Tryd.prog 28 false [Value.nilFunc] := .mk' (v := Value.nilFunc) (k := 1) (by kernel_rfl) (by kernel_rfl) rfl rfl
instance ty29 : Ty Tryd.prog 29 false [Value.nilFunc] := .mk' (v := Value.nilFunc) (k := 1) (by kernel_rfl) (by kernel_rfl) rfl rfl
instance ty30 : Ty Tryd.prog 30 true [Value.int .i64 0, Value.int .i64 0, Value.slice none 0 0] := .mk' (v := .agg #[Value.int .i64 0, Value.int .i64 0, Value.slice none 0 0]) (k := 3) (by kernel_rfl) (by kernel_rfl) rfl rfl
instance ty31 : Ty Tryd.prog 31 true [Value.int .i64 0, Value.int .i64 0, Value.slice none 0 0] := .mk' (v := .agg #[Value.int .i64 0, Value.int .i64 0, Value.slice none 0 0]) (k := 3) (by kernel_rfl) (by kernel_rfl) rfl rfl
instance ty32 : Ty Tryd.prog 32 false [Value.nilFunc] := .mk' (v := Value.nilFunc) (k := 1) (by kernel_rfl) (by kernel_rfl) rfl rfl
instance ty33 : Ty Tryd.prog 33 false [Value.nilFunc] := .mk' (v := Value.nilFunc) (k := 1) (by kernel_rfl) (by kernel_rfl) rfl rfl
instance ty34 : Ty Tryd.prog 34 false [Value.slice none 0 0] := .mk' (v := Value.slice none 0 0) (k := 1) (by kernel_rfl) (by kernel_rfl) rfl rfl
instance ty35 : Ty Tryd.prog 35 false [Value.nilFunc] := .mk' (v := Value.nilFunc) (k := 1) (by kernel_rfl) (by kernel_rfl) rfl rfl
instance ty36 : Ty Tryd.prog 36 false [Value.int .i64 0] := .mk' (v := Value.int .i64 0) (k := 1) (by kernel_rfl) (by kernel_rfl) rfl rfl
instance ty38 : Ty Tryd.prog 38 false [Value.nilFunc] := .mk' (v := Value.nilFunc) (k := 1) (by kernel_rfl) (by kernel_rfl) rfl rfl
instance ty39 : Ty Tryd.prog 39 false [Value.nilFunc] := .mk' (v := Value.nilFunc) (k := 1) (by kernel_rfl) (by kernel_rfl) rfl rfl
instance ty40 : Ty Tryd.prog 40 false [Value.nilFunc] := .mk' (v := Value.nilFunc) (k := 1) (by kernel_rfl) (by kernel_rfl) rfl rfl
instance ty41 : Ty Tryd.prog 41 false [Value.nilFunc] := .mk' (v := Value.nilFunc) (k := 1) (by kernel_rfl) (by kernel_rfl) rfl rfl
instance ty42 : Ty Tryd.prog 42 false [Value.nilFunc] := .mk' (v := Value.nilFunc) (k := 1) (by kernel_rfl) (by kernel_rfl) rfl rfl
instance ty43 : Ty Tryd.prog 43 false [Value.nilFunc] := .mk' (v := Value.nilFunc) (k := 1) (by kernel_rfl) (by kernel_rfl) rfl rfl
instance ty44 : Ty Tryd.prog 44 false [Value.nilFunc] := .mk' (v := Value.nilFunc) (k := 1) (by kernel_rfl) (by kernel_rfl) rfl rfl
instance ty45 : Ty Tryd.prog 45 false [Value.nilFunc] := .mk' (v := Value.nilFunc) (k := 1) (by kernel_rfl) (by kernel_rfl) rfl rfl
instance ty46 : Ty Tryd.prog 46 false [Value.nilFunc] := .mk' (v := Value.nilFunc) (k := 1) (by kernel_rfl) (by kernel_rfl) rfl rfl
instance ty47 : Ty Tryd.prog 47 false [Value.nilFunc] := .mk' (v := Value.nilFunc) (k := 1) (by kernel_rfl) (by kernel_rfl) rfl rfl
instance ty48 : Ty Tryd.prog 48 false [Value.nilFunc] := .mk' (v := Value.nilFunc) (k := 1) (by kernel_rfl) (by kernel_rfl) rfl rfl
instance ty49 : Ty Tryd.prog 49 false [Value.nilFunc] := .mk' (v := Value.nilFunc) (k := 1) (by kernel_rfl) (by kernel_rfl) rfl rfl
instance ty50 : Ty Tryd.prog 50 false [Value.nilFunc] := .mk' (v := Value.nilFunc) (k := 1) (by kernel_rfl) (by kernel_rfl) rfl rfl
instance ty51 : Ty Tryd.prog 51 false [Value.nilFunc] := .mk' (v := Value.nilFunc) (k := 1) (by kernel_rfl) (by kernel_rfl) rfl rfl
instance ty52 : Ty Tryd.prog 52 false [Value.pointer none] := .mk' (v := Value.pointer none) (k := 1) (by kernel_rfl) (by kernel_rfl) rfl rfl
instance ty53 : Ty Tryd.prog 53 true [Value.slice none 0 0, Value.bool false] := .mk' (v := .agg #[Value.slice none 0 0, Value.bool false]) (k := 2) (by kernel_rfl) (by kernel_rfl) rfl rfl
instance ty54 : Ty Tryd.prog 54 true [Value.slice none 0 0, Value.bool false] := .mk' (v := .agg #[Value.slice none 0 0, Value.bool false]) (k := 2) (by kernel_rfl) (by kernel_rfl) rfl rfl
instance ty55 : Ty Tryd.prog 55 false [Value.nilFunc] := .mk' (v := Value.nilFunc) (k := 1) (by kernel_rfl) (by kernel_rfl) rfl rfl
instance ty56 : Ty Tryd.prog 56 false [Value.nilFunc] := .mk' (v := Value.nilFunc) (k := 1) (by kernel_rfl) (by kernel_rfl) rfl rfl
instance ty57 : Ty Tryd.prog 57 false [Value.nilFunc] := .mk' (v := Value.nilFunc) (k := 1) (by kernel_rfl) (by kernel_rfl) rfl rfl
instance ty58 : Ty Tryd.prog 58 false [Value.nilIface] := .mk' (v := Value.nilIface) (k := 1) (by kernel_rfl) (by kernel_rfl) rfl rfl
instance ty59 : Ty Tryd.prog 59 false [Value.nilIface] := .mk' (v := Value.nilIface) (k := 1) (by kernel_rfl) (by kernel_rfl) rfl rfl
instance ty60 : Ty Tryd.prog 60 true [Value.nilIface] := .mk' (v := .agg #[Value.nilIface]) (k := 1) (by kernel_rfl) (by kernel_rfl) rfl rfl
instance ty61 : Ty Tryd.prog 61 true [Value.nilIface] := .mk' (v := .agg #[Value.nilIface]) (k := 1) (by kernel_rfl) (by kernel_rfl) rfl rfl
instance ty63 : Ty Tryd.prog 63 false [Value.nilFunc] := .mk' (v := Value.nilFunc) (k := 1) (by kernel_rfl) (by kernel_rfl) rfl rfl
instance ty64 : Ty Tryd.prog 64 false [Value.slice none 0 0] := .mk' (v := Value.slice none 0 0) (k := 1) (by kernel_rfl) (by kernel_rfl) rfl rfl
instance ty65 : Ty Tryd.prog 65 false [Value.slice none 0 0] := .mk' (v := Value.slice none 0 0) (k := 1) (by kernel_rfl) (by kernel_rfl) rfl rfl
instance ty67 : Ty Tryd.prog 67 false [Value.nilFunc] := .mk' (v := Value.nilFunc) (k := 1) (by kernel_rfl) (by kernel_rfl) rfl rfl
instance ty68 : Ty Tryd.prog 68 false [Value.nilFunc] := .mk' (v := Value.nilFunc) (k := 1) (by kernel_rfl) (by kernel_rfl) rfl rfl
instance ty69 : Ty Tryd.prog 69 false [Value.nilFunc] := .mk' (v := Value.nilFunc) (k := 1) (by kernel_rfl) (by kernel_rfl) rfl rfl
instance ty70 : Ty Tryd.prog 70 false [Value.nilFunc] := .mk' (v := Value.nilFunc) (k := 1) (by kernel_rfl) (by kernel_rfl) rfl rfl
instance ty71 : Ty Tryd.prog 71 false [Value.slice none 0 0] := .mk' (v := Value.slice none 0 0) (k := 1) (by kernel_rfl) (by kernel_rfl) rfl rfl
instance ty72 : Ty Tryd.prog 72 false [Value.nilFunc] := .mk' (v := Value.nilFunc) (k := 1) (by kernel_rfl) (by kernel_rfl) rfl rfl
instance ty73 : Ty Tryd.prog 73 false [Value.nilFunc] := .mk' (v := Value.nilFunc) (k := 1) (by kernel_rfl) (by kernel_rfl) rfl rfl
instance ty74 : Ty Tryd.prog 74 false [Value.nilFunc] := .mk' (v := Value.nilFunc) (k := 1) (by kernel_rfl) (by kernel_rfl) rfl rfl
instance ty76 : Ty Tryd.prog 76 false [Value.nilFunc] := .mk' (v := Value.nilFunc) (k := 1) (by kernel_rfl) (by kernel_rfl) rfl rfl
instance ty77 : Ty Tryd.prog 77 false [Value.nilFunc] := .mk' (v := Value.nilFunc) (k := 1) (by kernel_rfl) (by kernel_rfl) rfl rfl
instance ty79 : Ty Tryd.prog 79 false [Value.nilFunc] := .mk' (v := Value.nilFunc) (k := 1) (by kernel_rfl) (by kernel_rfl) rfl rfl
instance ty80 : Ty Tryd.prog 80 false [Value.nilFunc] := .mk' (v := Value.nilFunc) (k := 1) (by kernel_rfl) (by kernel_rfl) rfl rfl
instance ty81 : Ty Tryd.prog 81 false [Value.int .i64 0] := .mk' (v := Value.int .i64 0) (k := 1) (by kernel_rfl) (by kernel_rfl) rfl rfl
instance ty82 : Ty Tryd.prog 82 false [Value.string ⟨#[]⟩] := .mk' (v := Value.string ⟨#[]⟩) (k := 1) (by kernel_rfl) (by kernel_rfl) rfl rfl
instance ty84 : Ty Tryd.prog 84 false [Value.nilFunc] := .mk' (v := Value.nilFunc) (k := 1) (by kernel_rfl) (by kernel_rfl) rfl rfl
instance ty85 : Ty Tryd.prog 85 false [Value.int .u64 0] := .mk' (v := Value.int .u64 0) (k := 1) (by kernel_rfl) (by kernel_rfl) rfl rfl
instance ty86 : Ty Tryd.prog 86 false [Value.int .u64 0] := .mk' (v := Value.int .u64 0) (k := 1) (by kernel_rfl) (by kernel_rfl) rfl rfl
instance ty88 : Ty Tryd.prog 88 false [Value.nilFunc] := .mk' (v := Value.nilFunc) (k := 1) (by kernel_rfl) (by kernel_rfl) rfl rfl
instance ty89 : Ty Tryd.prog 89 false [Value.nilFunc] := .mk' (v := Value.nilFunc) (k := 1) (by kernel_rfl) (by kernel_rfl) rfl rfl
instance ty91 : Ty Tryd.prog 91 true [Value.int .u8 0, Value.int .u8 0] := .mk' (v := .agg #[Value.int .u8 0, Value.int .u8 0]) (k := 2) (by kernel_rfl) (by kernel_rfl) rfl rfl
instance ty92 : Ty Tryd.prog 92 true [Value.int .u8 0, Value.int .u8 0] := .mk' (v := .agg #[Value.int .u8 0, Value.int .u8 0]) (k := 2) (by kernel_rfl) (by kernel_rfl) rfl rfl
instance ty93 : Ty Tryd.prog 93 true [Value.int .u8 0, Value.int .u8 0, Value.int .u8 0, Value.int .u8 0, Value.int .u8 0, Value.int .u8 0, Value.int .u8 0, Value.int .u8 0, Value.int .u8 0, Value.int .u8 0, Value.int .u8 0, Value.int .u8 0, Value.int .u8 0, Value.int .u8 0, Value.int .u8 0, Value.int .u8 0, Value.int .u8 0, Value.int .u8 0, Value.int .u8 0, Value.int .u8 0, Value.int .u8 0, Value.int .u8 0, Value.int .u8 0, Value.int .u8 0, Value.int .u8 0, Value.int .u8 0, Value.int .u8 0, Value.int .u8 0, Value.int .u8 0, Value.int .u8 0, Value.int .u8 0, Value.int .u8 0] := .mk' (v := .agg #[Value.int .u8 0, Value.int .u8 0, Value.int .u8 0, Value.int .u8 0, Value.int .u8 0, Value.int .u8 0, Value.int .u8 0, Value.int .u8 0, Value.int .u8 0, Value.int .u8 0, Value.int .u8 0, Value.int .u8 0, Value.int .u8 0, Value.int .u8 0, Value.int .u8 0, Value.int .u8 0, Value.int .u8 0, Value.int .u8 0, Value.int .u8 0, Value.int .u8 0, Value.int .u8 0, Value.int .u8 0, Value.int .u8 0, Value.int .u8 0, Value.int .u8 0, Value.int .u8 0, Value.int .u8 0, Value.int .u8 0, Value.int .u8 0, Value.int .u8 0, Value.int .u8 0, Value.int .u8 0]) (k := 32) (by kernel_rfl) (by kernel_rfl) rfl rfl
instance ty94 : Ty Tryd.prog 94 false [Value.nilFunc] := .mk' (v := Value.nilFunc) (k := 1) (by kernel_rfl) (by kernel_rfl) rfl rfl
instance ty95 : Ty Tryd.prog 95 true [Value.pointer none, Value.pointer none, Value.pointer none, Value.string ⟨#[]⟩] := .mk' (v := .agg #[Value.pointer none, Value.pointer none, Value.pointer none, Value.string ⟨#[]⟩]) (k := 4) (by kernel_rfl) (by kernel_rfl) rfl rfl
instance ty96 : Ty Tryd.prog 96 true [Value.pointer none, Value.pointer none, Value.pointer none, Value.string ⟨#[]⟩] := .mk' (v := .agg #[Value.pointer none, Value.pointer none, Value.pointer none, Value.string ⟨#[]⟩]) (k := 4) (by kernel_rfl) (by kernel_rfl) rfl rfl
instance ty97 : Ty Tryd.prog 97 true [] := .mk' (v := .agg #[]) (k := 0) (by kernel_rfl) (by kernel_rfl) rfl rfl
instance ty98 : Ty Tryd.prog 98 true [] := .mk' (v := .agg #[]) (k := 0) (by kernel_rfl) (by kernel_rfl) rfl rfl
instance ty99 : Ty Tryd.prog 99 true [] := .mk' (v := .agg #[]) (k := 0) (by kernel_rfl) (by kernel_rfl) rfl rfl
instance ty100 : Ty Tryd.prog 100 false [Value.nilFunc] := .mk' (v := Value.nilFunc) (k := 1) (by kernel_rfl) (by kernel_rfl) rfl rfl
instance ty101 : Ty Tryd.prog 101 false [Value.int .u32 0] := .mk' (v := Value.int .u32 0) (k := 1) (by kernel_rfl) (by kernel_rfl) rfl rfl
instance ty102 : Ty Tryd.prog 102 false [Value.int .u8 0] := .mk' (v := Value.int .u8 0) (k := 1) (by kernel_rfl) (by kernel_rfl) rfl rfl
instance ty103 : Ty Tryd.prog 103 false [Value.int .u8 0] := .mk' (v := Value.int .u8 0) (k := 1) (by kernel_rfl) (by kernel_rfl) rfl rfl
instance ty104 : Ty Tryd.prog 104 false [Value.nilFunc] := .mk' (v := Value.nilFunc) (k := 1) (by kernel_rfl) (by kernel_rfl) rfl rfl
instance ty105 : Ty Tryd.prog 105 false [Value.pointer none] := .mk' (v := Value.pointer none) (k := 1) (by kernel_rfl) (by kernel_rfl) rfl rfl
instance ty106 : Ty Tryd.prog 106 false [Value.int .i32 0] := .mk' (v := Value.int .i32 0) (k := 1) (by kernel_rfl) (by kernel_rfl) rfl rfl
instance ty107 : Ty Tryd.prog 107 false [Value.int .i32 0] := .mk' (v := Value.int .i32 0) (k := 1) (by kernel_rfl) (by kernel_rfl) rfl rfl
instance ty108 : Ty Tryd.prog 108 true [Value.int .u64 0, Value.int .u64 0, Value.int .u32 0, Value.int .u8 0, Value.int .u8 0, Value.int .u8 0, Value.int .u8 0, Value.nilFunc, Value.pointer none, Value.int .i32 0, Value.int .i32 0] := .mk' (v := .agg #[Value.int .u64 0, Value.int .u64 0, Value.int .u32 0, Value.int .u8 0, Value.int .u8 0, Value.int .u8 0, Value.int .u8 0, Value.nilFunc, Value.pointer none, Value.int .i32 0, Value.int .i32 0]) (k := 11) (by kernel_rfl) (by kernel_rfl) rfl rfl
instance ty109 : Ty Tryd.prog 109 true [Value.int .u64 0, Value.int .u64 0, Value.int .u32 0, Value.int .u8 0, Value.int .u8 0, Value.int .u8 0, Value.int .u8 0, Value.nilFunc, Value.pointer none, Value.int .i32 0, Value.int .i32 0] := .mk' (v := .agg #[Value.int .u64 0, Value.int .u64 0, Value.int .u32 0, Value.int .u8 0, Value.int .u8 0, Value.int .u8 0, Value.int .u8 0, Value.nilFunc, Value.pointer none, Value.int .i32 0, Value.int .i32 0]) (k := 11) (by kernel_rfl) (by kernel_rfl) rfl rfl
instance ty110 : Ty Tryd.prog 110 false [Value.pointer none] := .mk' (v := Value.pointer none) (k := 1) (by kernel_rfl) (by kernel_rfl) rfl rfl
instance el1 : El Tryd.prog 1 1 8 := .mk' (z := Value.nilFunc) (by kernel_rfl) rfl
instance it2 : IntTy Tryd.prog 2 .i64 := ⟨by kernel_rfl⟩
instance el2 : El Tryd.prog 2 1 8 := .mk' (z := Value.int .i64 0) (by kernel_rfl) rfl
instance it3 : IntTy Tryd.prog 3 .i64 := ⟨by kernel_rfl⟩
instance el3 : El Tryd.prog 3 1 8 := .mk' (z := Value.int .i64 0) (by kernel_rfl) rfl
instance el4 : El Tryd.prog 4 1 1 := .mk' (z := Value.bool false) (by kernel_rfl) rfl
instance it5 : IntTy Tryd.prog 5 .u8 := ⟨by kernel_rfl⟩
instance el5 : El Tryd.prog 5 1 1 := .mk' (z := Value.int .u8 0) (by kernel_rfl) rfl
instance it6 : IntTy Tryd.prog 6 .u8 := ⟨by kernel_rfl⟩
instance el6 : El Tryd.prog 6 1 1 := .mk' (z := Value.int .u8 0) (by kernel_rfl) rfl
instance el7 : El Tryd.prog 7 4 24 := .mk' (z := .agg #[Value.int .i64 0, Value.int .i64 0, Value.bool false, Value.int .u8 0]) (by kernel_rfl) rfl
instance fl7_0 : Fld Tryd.prog 7 0 0 2 := .mk' (by kernel_rfl) (by kernel_rfl)
instance fl7_1 : Fld Tryd.prog 7 1 1 3 := .mk' (by kernel_rfl) (by kernel_rfl)
instance fl7_2 : Fld Tryd.prog 7 2 2 4 := .mk' (by kernel_rfl) (by kernel_rfl)
instance fl7_3 : Fld Tryd.prog 7 3 3 6 := .mk' (by kernel_rfl) (by kernel_rfl)
instance su7 : St Tryd.prog 7 [(0, 1), (1, 1), (2, 1), (3, 1)] := ⟨by kernel_rfl⟩
instance el8 : El Tryd.prog 8 4 24 := .mk' (z := .agg #[Value.int .i64 0, Value.int .i64 0, Value.bool false, Value.int .u8 0]) (by kernel_rfl) rfl
instance fl8_0 : Fld Tryd.prog 8 0 0 2 := .mk' (by kernel_rfl) (by kernel_rfl)
instance fl8_1 : Fld Tryd.prog 8 1 1 3 := .mk' (by kernel_rfl) (by kernel_rfl)
instance fl8_2 : Fld Tryd.prog 8 2 2 4 := .mk' (by kernel_rfl) (by kernel_rfl)
instance fl8_3 : Fld Tryd.prog 8 3 3 6 := .mk' (by kernel_rfl) (by kernel_rfl)
instance su8 : St Tryd.prog 8 [(0, 1), (1, 1), (2, 1), (3, 1)] := ⟨by kernel_rfl⟩
instance st9 : StrTy Tryd.prog 9 := ⟨by kernel_rfl⟩
instance el9 : El Tryd.prog 9 1 16 := .mk' (z := Value.string ⟨#[]⟩) (by kernel_rfl) rfl
instance st10 : StrTy Tryd.prog 10 := ⟨by kernel_rfl⟩
instance el10 : El Tryd.prog 10 1 16 := .mk' (z := Value.string ⟨#[]⟩) (by kernel_rfl) rfl
instance st11 : StrTy Tryd.prog 11 := ⟨by kernel_rfl⟩
instance el11 : El Tryd.prog 11 1 16 := .mk' (z := Value.string ⟨#[]⟩) (by kernel_rfl) rfl
instance it12 : IntTy Tryd.prog 12 .u64 := ⟨by kernel_rfl⟩
instance el12 : El Tryd.prog 12 1 8 := .mk' (z := Value.int .u64 0) (by kernel_rfl) rfl
instance el13 : El Tryd.prog 13 2 24 := .mk' (z := .agg #[Value.string ⟨#[]⟩, Value.int .u64 0]) (by kernel_rfl) rfl
instance fl13_0 : Fld Tryd.prog 13 0 0 9 := .mk' (by kernel_rfl) (by kernel_rfl)
instance fl13_1 : Fld Tryd.prog 13 1 1 12 := .mk' (by kernel_rfl) (by kernel_rfl)
instance su13 : St Tryd.prog 13 [(0, 1), (1, 1)] := ⟨by kernel_rfl⟩
instance el14 : El Tryd.prog 14 2 24 := .mk' (z := .agg #[Value.string ⟨#[]⟩, Value.int .u64 0]) (by kernel_rfl) rfl
instance fl14_0 : Fld Tryd.prog 14 0 0 9 := .mk' (by kernel_rfl) (by kernel_rfl)
instance fl14_1 : Fld Tryd.prog 14 1 1 12 := .mk' (by kernel_rfl) (by kernel_rfl)
instance su14 : St Tryd.prog 14 [(0, 1), (1, 1)] := ⟨by kernel_rfl⟩
instance el15 : El Tryd.prog 15 1 8 := .mk' (z := Value.pointer none) (by kernel_rfl) rfl
instance el16 : El Tryd.prog 16 1 8 := .mk' (z := Value.pointer none) (by kernel_rfl) rfl
instance el17 : El Tryd.prog 17 1 8 := .mk' (z := Value.pointer none) (by kernel_rfl) rfl
instance el18 : El Tryd.prog 18 1 8 := .mk' (z := .agg #[Value.pointer none]) (by kernel_rfl) rfl
instance fl18_0 : Fld Tryd.prog 18 0 0 17 := .mk' (by kernel_rfl) (by kernel_rfl)
instance su18 : St Tryd.prog 18 [(0, 1)] := ⟨by kernel_rfl⟩
instance el19 : El Tryd.prog 19 1 8 := .mk' (z := .agg #[Value.pointer none]) (by kernel_rfl) rfl
instance fl19_0 : Fld Tryd.prog 19 0 0 17 := .mk' (by kernel_rfl) (by kernel_rfl)
instance su19 : St Tryd.prog 19 [(0, 1)] := ⟨by kernel_rfl⟩
instance el20 : El Tryd.prog 20 1 16 := .mk' (z := Value.nilIface) (by kernel_rfl) rfl
instance it21 : IntTy Tryd.prog 21 .i32 := ⟨by kernel_rfl⟩
instance el21 : El Tryd.prog 21 1 4 := .mk' (z := Value.int .i32 0) (by kernel_rfl) rfl
instance el22 : El Tryd.prog 22 3 32 := .mk' (z := .agg #[Value.int .i64 0, Value.int .i64 0, Value.string ⟨#[]⟩]) (by kernel_rfl) rfl
instance fl22_0 : Fld Tryd.prog 22 0 0 3 := .mk' (by kernel_rfl) (by kernel_rfl)
instance fl22_1 : Fld Tryd.prog 22 1 1 2 := .mk' (by kernel_rfl) (by kernel_rfl)
instance fl22_2 : Fld Tryd.prog 22 2 2 9 := .mk' (by kernel_rfl) (by kernel_rfl)
instance su22 : St Tryd.prog 22 [(0, 1), (1, 1), (2, 1)] := ⟨by kernel_rfl⟩
instance el23 : El Tryd.prog 23 3 32 := .mk' (z := .agg #[Value.int .i64 0, Value.int .i64 0, Value.string ⟨#[]⟩]) (by kernel_rfl) rfl
instance fl23_0 : Fld Tryd.prog 23 0 0 3 := .mk' (by kernel_rfl) (by kernel_rfl)
instance fl23_1 : Fld Tryd.prog 23 1 1 2 := .mk' (by kernel_rfl) (by kernel_rfl)
instance fl23_2 : Fld Tryd.prog 23 2 2 9 := .mk' (by kernel_rfl) (by kernel_rfl)
instance su23 : St Tryd.prog 23 [(0, 1), (1, 1), (2, 1)] := ⟨by kernel_rfl⟩
instance el24 : El Tryd.prog 24 9 96 := .mk' (z := .agg #[Value.int .i64 0, Value.string ⟨#[]⟩, Value.int .i64 0, Value.int .i64 0, Value.string ⟨#[]⟩, Value.int .i64 0, Value.int .i64 0, Value.string ⟨#[]⟩, Value.int .i64 0]) (by kernel_rfl) rfl
instance fl24_0 : Fld Tryd.prog 24 0 0 3 := .mk' (by kernel_rfl) (by kernel_rfl)
instance fl24_1 : Fld Tryd.prog 24 1 1 9 := .mk' (by kernel_rfl) (by kernel_rfl)
instance fl24_2 : Fld Tryd.prog 24 2 2 23 := .mk' (by kernel_rfl) (by kernel_rfl)
instance fl24_3 : Fld Tryd.prog 24 3 5 23 := .mk' (by kernel_rfl) (by kernel_rfl)
instance fl24_4 : Fld Tryd.prog 24 4 8 2 := .mk' (by kernel_rfl) (by kernel_rfl)
instance su24 : St Tryd.prog 24 [(0, 1), (1, 1), (2, 3), (5, 3), (8, 1)] := ⟨by kernel_rfl⟩
instance el25 : El Tryd.prog 25 9 96 := .mk' (z := .agg #[Value.int .i64 0, Value.string ⟨#[]⟩, Value.int .i64 0, Value.int .i64 0, Value.string ⟨#[]⟩, Value.int .i64 0, Value.int .i64 0, Value.string ⟨#[]⟩, Value.int .i64 0]) (by kernel_rfl) rfl
instance fl25_0 : Fld Tryd.prog 25 0 0 3 := .mk' (by kernel_rfl) (by kernel_rfl)
instance fl25_1 : Fld Tryd.prog 25 1 1 9 := .mk' (by kernel_rfl) (by kernel_rfl)
instance fl25_2 : Fld Tryd.prog 25 2 2 23 := .mk' (by kernel_rfl) (by kernel_rfl)
instance fl25_3 : Fld Tryd.prog 25 3 5 23 := .mk' (by kernel_rfl) (by kernel_rfl)
instance fl25_4 : Fld Tryd.prog 25 4 8 2 := .mk' (by kernel_rfl) (by kernel_rfl)
instance su25 : St Tryd.prog 25 [(0, 1), (1, 1), (2, 3), (5, 3), (8, 1)] := ⟨by kernel_rfl⟩
instance el26 : El Tryd.prog 26 1 8 := .mk' (z := Value.nilFunc) (by kernel_rfl) rfl
instance el27 : El Tryd.prog 27 1 24 := .mk' (z := Value.slice none 0 0) (by kernel_rfl) rfl
instance sl27 : Sl Tryd.prog 27 25 := ⟨by kernel_rfl⟩
instance el28 : El Tryd.prog 28 1 8 := .mk' (z := Value.nilFunc) (by kernel_rfl) rfl
instance el29 : El Tryd.prog 29 1 8 := .mk' (z := Value.nilFunc) (by kernel_rfl) rfl
instance el30 : El Tryd.prog 30 3 40 := .mk' (z := .agg #[Value.int .i64 0, Value.int .i64 0, Value.slice none 0 0]) (by kernel_rfl) rfl
instance fl30_0 : Fld Tryd.prog 30 0 0 3 := .mk' (by kernel_rfl) (by kernel_rfl)
instance fl30_1 : Fld Tryd.prog 30 1 1 2 := .mk' (by kernel_rfl) (by kernel_rfl)
instance fl30_2 : Fld Tryd.prog 30 2 2 27 := .mk' (by kernel_rfl) (by kernel_rfl)
instance su30 : St Tryd.prog 30 [(0, 1), (1, 1), (2, 1)] := ⟨by kernel_rfl⟩
instance el31 : El Tryd.prog 31 3 40 := .mk' (z := .agg #[Value.int .i64 0, Value.int .i64 0, Value.slice none 0 0]) (by kernel_rfl) rfl
instance fl31_0 : Fld Tryd.prog 31 0 0 3 := .mk' (by kernel_rfl) (by kernel_rfl)
instance fl31_1 : Fld Tryd.prog 31 1 1 2 := .mk' (by kernel_rfl) (by kernel_rfl)
instance fl31_2 : Fld Tryd.prog 31 2 2 27 := .mk' (by kernel_rfl) (by kernel_rfl)
instance su31 : St Tryd.prog 31 [(0, 1), (1, 1), (2, 1)] := ⟨by kernel_rfl⟩
instance el32 : El Tryd.prog 32 1 8 := .mk' (z := Value.nilFunc) (by kernel_rfl) rfl
instance el33 : El Tryd.prog 33 1 8 := .mk' (z := Value.nilFunc) (by kernel_rfl) rfl
instance el34 : El Tryd.prog 34 1 24 := .mk' (z := Value.slice none 0 0) (by kernel_rfl) rfl
instance sl34 : Sl Tryd.prog 34 5 := ⟨by kernel_rfl⟩
instance el35 : El Tryd.prog 35 1 8 := .mk' (z := Value.nilFunc) (by kernel_rfl) rfl
instance it36 : IntTy Tryd.prog 36 .i64 := ⟨by kernel_rfl⟩
instance el36 : El Tryd.prog 36 1 8 := .mk' (z := Value.int .i64 0) (by kernel_rfl) rfl
instance el38 : El Tryd.prog 38 1 8 := .mk' (z := Value.nilFunc) (by kernel_rfl) rfl
instance el39 : El Tryd.prog 39 1 8 := .mk' (z := Value.nilFunc) (by kernel_rfl) rfl
instance el40 : El Tryd.prog 40 1 8 := .mk' (z := Value.nilFunc) (by kernel_rfl) rfl
instance el41 : El Tryd.prog 41 1 8 := .mk' (z := Value.nilFunc) (by kernel_rfl) rfl
instance el42 : El Tryd.prog 42 1 8 := .mk' (z := Value.nilFunc) (by kernel_rfl) rfl
instance el43 : El Tryd.prog 43 1 8 := .mk' (z := Value.nilFunc) (by kernel_rfl) rfl
instance el44 : El Tryd.prog 44 1 8 := .mk' (z := Value.nilFunc) (by kernel_rfl) rfl
instance el45 : El Tryd.prog 45 1 8 := .mk' (z := Value.nilFunc) (by kernel_rfl) rfl
instance el46 : El Tryd.prog 46 1 8 := .mk' (z := Value.nilFunc) (by kernel_rfl) rfl
instance el47 : El Tryd.prog 47 1 8 := .mk' (z := Value.nilFunc) (by kernel_rfl) rfl
instance el48 : El Tryd.prog 48 1 8 := .mk' (z := Value.nilFunc) (by kernel_rfl) rfl
instance el49 : El Tryd.prog 49 1 8 := .mk' (z := Value.nilFunc) (by kernel_rfl) rfl
instance el50 : El Tryd.prog 50 1 8 := .mk' (z := Value.nilFunc) (by kernel_rfl) rfl
instance el51 : El Tryd.prog 51 1 8 := .mk' (z := Value.nilFunc) (by kernel_rfl) rfl
instance el52 : El Tryd.prog 52 1 8 := .mk' (z := Value.pointer none) (by kernel_rfl) rfl
instance el53 : El Tryd.prog 53 2 32 := .mk' (z := .agg #[Value.slice none 0 0, Value.bool false]) (by kernel_rfl) rfl
instance fl53_0 : Fld Tryd.prog 53 0 0 34 := .mk' (by kernel_rfl) (by kernel_rfl)
instance fl53_1 : Fld Tryd.prog 53 1 1 4 := .mk' (by kernel_rfl) (by kernel_rfl)
instance su53 : St Tryd.prog 53 [(0, 1), (1, 1)] := ⟨by kernel_rfl⟩
instance el54 : El Tryd.prog 54 2 32 := .mk' (z := .agg #[Value.slice none 0 0, Value.bool false]) (by kernel_rfl) rfl
instance fl54_0 : Fld Tryd.prog 54 0 0 34 := .mk' (by kernel_rfl) (by kernel_rfl)
instance fl54_1 : Fld Tryd.prog 54 1 1 4 := .mk' (by kernel_rfl) (by kernel_rfl)
instance su54 : St Tryd.prog 54 [(0, 1), (1, 1)] := ⟨by kernel_rfl⟩
instance el55 : El Tryd.prog 55 1 8 := .mk' (z := Value.nilFunc) (by kernel_rfl) rfl
instance el56 : El Tryd.prog 56 1 8 := .mk' (z := Value.nilFunc) (by kernel_rfl) rfl
instance el57 : El Tryd.prog 57 1 8 := .mk' (z := Value.nilFunc) (by kernel_rfl) rfl
instance el58 : El Tryd.prog 58 1 16 := .mk' (z := Value.nilIface) (by kernel_rfl) rfl
instance el59 : El Tryd.prog 59 1 16 := .mk' (z := Value.nilIface) (by kernel_rfl) rfl
instance el60 : El Tryd.prog 60 1 16 := .mk' (z := .agg #[Value.nilIface]) (by kernel_rfl) rfl
instance fl60_0 : Fld Tryd.prog 60 0 0 59 := .mk' (by kernel_rfl) (by kernel_rfl)
instance su60 : St Tryd.prog 60 [(0, 1)] := ⟨by kernel_rfl⟩
instance el61 : El Tryd.prog 61 1 16 := .mk' (z := .agg #[Value.nilIface]) (by kernel_rfl) rfl
instance fl61_0 : Fld Tryd.prog 61 0 0 59 := .mk' (by kernel_rfl) (by kernel_rfl)
instance su61 : St Tryd.prog 61 [(0, 1)] := ⟨by kernel_rfl⟩
instance el63 : El Tryd.prog 63 1 8 := .mk' (z := Value.nilFunc) (by kernel_rfl) rfl
instance el64 : El Tryd.prog 64 1 24 := .mk' (z := Value.slice none 0 0) (by kernel_rfl) rfl
instance sl64 : Sl Tryd.prog 64 21 := ⟨by kernel_rfl⟩
instance el65 : El Tryd.prog 65 1 24 := .mk' (z := Value.slice none 0 0) (by kernel_rfl) rfl
instance sl65 : Sl Tryd.prog 65 3 := ⟨by kernel_rfl⟩
instance el67 : El Tryd.prog 67 1 8 := .mk' (z := Value.nilFunc) (by kernel_rfl) rfl
instance el68 : El Tryd.prog 68 1 8 := .mk' (z := Value.nilFunc) (by kernel_rfl) rfl
instance el69 : El Tryd.prog 69 1 8 := .mk' (z := Value.nilFunc) (by kernel_rfl) rfl
instance el70 : El Tryd.prog 70 1 8 := .mk' (z := Value.nilFunc) (by kernel_rfl) rfl
instance el71 : El Tryd.prog 71 1 24 := .mk' (z := Value.slice none 0 0) (by kernel_rfl) rfl
instance sl71 : Sl Tryd.prog 71 2 := ⟨by kernel_rfl⟩
instance el72 : El Tryd.prog 72 1 8 := .mk' (z := Value.nilFunc) (by kernel_rfl) rfl
instance el73 : El Tryd.prog 73 1 8 := .mk' (z := Value.nilFunc) (by kernel_rfl) rfl
instance el74 : El Tryd.prog 74 1 8 := .mk' (z := Value.nilFunc) (by kernel_rfl) rfl
instance el76 : El Tryd.prog 76 1 8 := .mk' (z := Value.nilFunc) (by kernel_rfl) rfl
instance el77 : El Tryd.prog 77 1 8 := .mk' (z := Value.nilFunc) (by kernel_rfl) rfl
instance el79 : El Tryd.prog 79 1 8 := .mk' (z := Value.nilFunc) (by kernel_rfl) rfl
instance el80 : El Tryd.prog 80 1 8 := .mk' (z := Value.nilFunc) (by kernel_rfl) rfl
instance it81 : IntTy Tryd.prog 81 .i64 := ⟨by kernel_rfl⟩
instance el81 : El Tryd.prog 81 1 8 := .mk' (z := Value.int .i64 0) (by kernel_rfl) rfl
instance st82 : StrTy Tryd.prog 82 := ⟨by kernel_rfl⟩
instance el82 : El Tryd.prog 82 1 16 := .mk' (z := Value.string ⟨#[]⟩) (by kernel_rfl) rfl
instance el84 : El Tryd.prog 84 1 8 := .mk' (z := Value.nilFunc) (by kernel_rfl) rfl
instance it85 : IntTy Tryd.prog 85 .u64 := ⟨by kernel_rfl⟩
instance el85 : El Tryd.prog 85 1 8 := .mk' (z := Value.int .u64 0) (by kernel_rfl) rfl
instance it86 : IntTy Tryd.prog 86 .u64 := ⟨by kernel_rfl⟩
instance el86 : El Tryd.prog 86 1 8 := .mk' (z := Value.int .u64 0) (by kernel_rfl) rfl
instance el88 : El Tryd.prog 88 1 8 := .mk' (z := Value.nilFunc) (by kernel_rfl) rfl
instance el89 : El Tryd.prog 89 1 8 := .mk' (z := Value.nilFunc) (by kernel_rfl) rfl
instance el91 : El Tryd.prog 91 2 2 := .mk' (z := .agg #[Value.int .u8 0, Value.int .u8 0]) (by kernel_rfl) rfl
instance fl91_0 : Fld Tryd.prog 91 0 0 5 := .mk' (by kernel_rfl) (by kernel_rfl)
instance fl91_1 : Fld Tryd.prog 91 1 1 5 := .mk' (by kernel_rfl) (by kernel_rfl)
instance su91 : St Tryd.prog 91 [(0, 1), (1, 1)] := ⟨by kernel_rfl⟩
instance el92 : El Tryd.prog 92 2 2 := .mk' (z := .agg #[Value.int .u8 0, Value.int .u8 0]) (by kernel_rfl) rfl
instance fl92_0 : Fld Tryd.prog 92 0 0 5 := .mk' (by kernel_rfl) (by kernel_rfl)
instance fl92_1 : Fld Tryd.prog 92 1 1 5 := .mk' (by kernel_rfl) (by kernel_rfl)
instance su92 : St Tryd.prog 92 [(0, 1), (1, 1)] := ⟨by kernel_rfl⟩
instance el93 : El Tryd.prog 93 32 32 := .mk' (z := .agg #[Value.int .u8 0, Value.int .u8 0, Value.int .u8 0, Value.int .u8 0, Value.int .u8 0, Value.int .u8 0, Value.int .u8 0, Value.int .u8 0, Value.int .u8 0, Value.int .u8 0, Value.int .u8 0, Value.int .u8 0, Value.int .u8 0, Value.int .u8 0, Value.int .u8 0, Value.int .u8 0, Value.int .u8 0, Value.int .u8 0, Value.int .u8 0, Value.int .u8 0, Value.int .u8 0, Value.int .u8 0, Value.int .u8 0, Value.int .u8 0, Value.int .u8 0, Value.int .u8 0, Value.int .u8 0, Value.int .u8 0, Value.int .u8 0, Value.int .u8 0, Value.int .u8 0, Value.int .u8 0]) (by kernel_rfl) rfl
instance el94 : El Tryd.prog 94 1 8 := .mk' (z := Value.nilFunc) (by kernel_rfl) rfl
instance el95 : El Tryd.prog 95 4 40 := .mk' (z := .agg #[Value.pointer none, Value.pointer none, Value.pointer none, Value.string ⟨#[]⟩]) (by kernel_rfl) rfl
instance fl95_0 : Fld Tryd.prog 95 0 0 17 := .mk' (by kernel_rfl) (by kernel_rfl)
instance fl95_1 : Fld Tryd.prog 95 1 1 17 := .mk' (by kernel_rfl) (by kernel_rfl)
instance fl95_2 : Fld Tryd.prog 95 2 2 17 := .mk' (by kernel_rfl) (by kernel_rfl)
instance fl95_3 : Fld Tryd.prog 95 3 3 9 := .mk' (by kernel_rfl) (by kernel_rfl)
instance su95 : St Tryd.prog 95 [(0, 1), (1, 1), (2, 1), (3, 1)] := ⟨by kernel_rfl⟩
instance el96 : El Tryd.prog 96 4 40 := .mk' (z := .agg #[Value.pointer none, Value.pointer none, Value.pointer none, Value.string ⟨#[]⟩]) (by kernel_rfl) rfl
instance fl96_0 : Fld Tryd.prog 96 0 0 17 := .mk' (by kernel_rfl) (by kernel_rfl)
instance fl96_1 : Fld Tryd.prog 96 1 1 17 := .mk' (by kernel_rfl) (by kernel_rfl)
instance fl96_2 : Fld Tryd.prog 96 2 2 17 := .mk' (by kernel_rfl) (by kernel_rfl)
instance fl96_3 : Fld Tryd.prog 96 3 3 9 := .mk' (by kernel_rfl) (by kernel_rfl)
instance su96 : St Tryd.prog 96 [(0, 1), (1, 1), (2, 1), (3, 1)] := ⟨by kernel_rfl⟩
instance su98 : St Tryd.prog 98 [(0, 0)] := ⟨by kernel_rfl⟩
instance su99 : St Tryd.prog 99 [(0, 0)] := ⟨by kernel_rfl⟩
instance el100 : El Tryd.prog 100 1 8 := .mk' (z := Value.nilFunc) (by kernel_rfl) rfl
instance it101 : IntTy Tryd.prog 101 .u32 := ⟨by kernel_rfl⟩
instance el101 : El Tryd.prog 101 1 4 := .mk' (z := Value.int .u32 0) (by kernel_rfl) rfl
instance it102 : IntTy Tryd.prog 102 .u8 := ⟨by kernel_rfl⟩
instance el102 : El Tryd.prog 102 1 1 := .mk' (z := Value.int .u8 0) (by kernel_rfl) rfl
instance it103 : IntTy Tryd.prog 103 .u8 := ⟨by kernel_rfl⟩
instance el103 : El Tryd.prog 103 1 1 := .mk' (z := Value.int .u8 0) (by kernel_rfl) rfl
instance el104 : El Tryd.prog 104 1 8 := .mk' (z := Value.nilFunc) (by kernel_rfl) rfl
instance el105 : El Tryd.prog 105 1 8 := .mk' (z := Value.pointer none) (by kernel_rfl) rfl
instance it106 : IntTy Tryd.prog 106 .i32 := ⟨by kernel_rfl⟩
instance el106 : El Tryd.prog 106 1 4 := .mk' (z := Value.int .i32 0) (by kernel_rfl) rfl
instance it107 : IntTy Tryd.prog 107 .i32 := ⟨by kernel_rfl⟩
instance el107 : El Tryd.prog 107 1 4 := .mk' (z := Value.int .i32 0) (by kernel_rfl) rfl
instance el108 : El Tryd.prog 108 11 48 := .mk' (z := .agg #[Value.int .u64 0, Value.int .u64 0, Value.int .u32 0, Value.int .u8 0, Value.int .u8 0, Value.int .u8 0, Value.int .u8 0, Value.nilFunc, Value.pointer none, Value.int .i32 0, Value.int .i32 0]) (by kernel_rfl) rfl
instance fl108_0 : Fld Tryd.prog 108 0 0 12 := .mk' (by kernel_rfl) (by kernel_rfl)
instance fl108_1 : Fld Tryd.prog 108 1 1 12 := .mk' (by kernel_rfl) (by kernel_rfl)
instance fl108_2 : Fld Tryd.prog 108 2 2 101 := .mk' (by kernel_rfl) (by kernel_rfl)
instance fl108_3 : Fld Tryd.prog 108 3 3 102 := .mk' (by kernel_rfl) (by kernel_rfl)
instance fl108_4 : Fld Tryd.prog 108 4 4 5 := .mk' (by kernel_rfl) (by kernel_rfl)
instance fl108_5 : Fld Tryd.prog 108 5 5 5 := .mk' (by kernel_rfl) (by kernel_rfl)
instance fl108_6 : Fld Tryd.prog 108 6 6 103 := .mk' (by kernel_rfl) (by kernel_rfl)
instance fl108_7 : Fld Tryd.prog 108 7 7 104 := .mk' (by kernel_rfl) (by kernel_rfl)
instance fl108_8 : Fld Tryd.prog 108 8 8 105 := .mk' (by kernel_rfl) (by kernel_rfl)
instance fl108_9 : Fld Tryd.prog 108 9 9 106 := .mk' (by kernel_rfl) (by kernel_rfl)
instance fl108_10 : Fld Tryd.prog 108 10 10 107 := .mk' (by kernel_rfl) (by kernel_rfl)
instance su108 : St Tryd.prog 108 [(0, 1), (1, 1), (2, 1), (3, 1), (4, 1), (5, 1), (6, 1), (7, 1), (8, 1), (9, 1), (10, 1)] := ⟨by kernel_rfl⟩
instance el109 : El Tryd.prog 109 11 48 := .mk' (z := .agg #[Value.int .u64 0, Value.int .u64 0, Value.int .u32 0, Value.int .u8 0, Value.int .u8 0, Value.int .u8 0, Value.int .u8 0, Value.nilFunc, Value.pointer none, Value.int .i32 0, Value.int .i32 0]) (by kernel_rfl) rfl
instance fl109_0 : Fld Tryd.prog 109 0 0 12 := .mk' (by kernel_rfl) (by kernel_rfl)
instance fl109_1 : Fld Tryd.prog 109 1 1 12 := .mk' (by kernel_rfl) (by kernel_rfl)
instance fl109_2 : Fld Tryd.prog 109 2 2 101 := .mk' (by kernel_rfl) (by kernel_rfl)
instance fl109_3 : Fld Tryd.prog 109 3 3 102 := .mk' (by kernel_rfl) (by kernel_rfl)
instance fl109_4 : Fld Tryd.prog 109 4 4 5 := .mk' (by kernel_rfl) (by kernel_rfl)
instance fl109_5 : Fld Tryd.prog 109 5 5 5 := .mk' (by kernel_rfl) (by kernel_rfl)
instance fl109_6 : Fld Tryd.prog 109 6 6 103 := .mk' (by kernel_rfl) (by kernel_rfl)
instance fl109_7 : Fld Tryd.prog 109 7 7 104 := .mk' (by kernel_rfl) (by kernel_rfl)
instance fl109_8 : Fld Tryd.prog 109 8 8 105 := .mk' (by kernel_rfl) (by kernel_rfl)
instance fl109_9 : Fld Tryd.prog 109 9 9 106 := .mk' (by kernel_rfl) (by kernel_rfl)
instance fl109_10 : Fld Tryd.prog 109 10 10 107 := .mk' (by kernel_rfl) (by kernel_rfl)
instance su109 : St Tryd.prog 109 [(0, 1), (1, 1), (2, 1), (3, 1), (4, 1), (5, 1), (6, 1), (7, 1), (8, 1), (9, 1), (10, 1)] := ⟨by kernel_rfl⟩
instance el110 : El Tryd.prog 110 1 8 := .mk' (z := Value.pointer none) (by kernel_rfl) rfl
end Go.Proofs.YtfnmfofipcnojaaDoor
