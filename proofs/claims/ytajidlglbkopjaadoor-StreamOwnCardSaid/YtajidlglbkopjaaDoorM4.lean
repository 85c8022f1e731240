/-
  Texts of the proof, one behind the other (part 4).
-/
import Derived.Test.YtajidlglbkopjaaDoorM3
import Derived.Test.YtajidlglbkopjaaDoorProg
import Derived.WalkKit
import Derived.WalkLawsBesides
import Derived.WalkSpells
import Derived.Lib.Hide
import Derived.Deep.QuietTactic
import Derived.BigQuiet
/-
  What is known of the seat's types: an instance each (printed by gen_types.py).
-/
namespace Go.Proofs.YtajidlglbkopjaaDoor
open Go.Sx
instance ty1 : Ty Tryd.prog 1 false [Value.nilFunc] := .mk' (v := Value.nilFunc) (k := 1) (by kernel_rfl) (by kernel_rfl) rfl rfl
instance ty2 : Ty Tryd.prog 2 false [Value.int .i64 0] := .mk' (v := Value.int .i64 0) (k := 1) (by kernel_rfl) (by kernel_rfl) rfl rfl
instance ty3 : Ty Tryd.prog 3 false [Value.int .i64 0] := .mk' (v := Value.int .i64 0) (k := 1) (by kernel_rfl) (by kernel_rfl) rfl rfl
instance ty4 : Ty Tryd.prog 4 false [Value.bool false] := .mk' (v := Value.bool false) (k := 1) (by kernel_rfl) (by kernel_rfl) rfl rfl
instance ty5 : Ty Tryd.prog 5 false [Value.int .u8 0] := .mk' (v := Value.int .u8 0) (k := 1) (by kernel_rfl) (by kernel_rfl) rfl rfl
instance ty6 : Ty Tryd.prog 6 false [Value.int .u8 0] := .mk' (v := Value.int .u8 0) (k := 1) (by kernel_rfl) (by kernel_rfl) rfl rfl
instance ty7 : Ty Tryd.prog 7 true [Value.int .i64 0, Value.int .i64 0, Value.bool false, Value.int .u8 0] := .mk' (v := .agg #[Value.int .i64 0, Value.int .i64 0, Value.bool false, Value.int .u8 0]) (k := 4) (by kernel_rfl) (by kernel_rfl) rfl rfl
instance ty8 : Ty Tryd.prog 8 true [Value.int .i64 0, Value.int .i64 0, Value.bool false, Value.int .u8 0] := .mk' (v := .agg #[Value.int .i64 0, Value.int .i64 0, Value.bool false, Value.int .u8 0]) (k := 4) (by kernel_rfl) (by kernel_rfl) rfl rfl
instance ty9 : Ty Tryd.prog 9 false [Value.string ⟨#[]⟩] := .mk' (v := Value.string ⟨#[]⟩) (k := 1) (by kernel_rfl) (by kernel_rfl) rfl rfl
instance ty10 : Ty Tryd.prog 10 false [Value.string ⟨#[]⟩] := .mk' (v := Value.string ⟨#[]⟩) (k := 1) (by kernel_rfl) (by kernel_rfl) rfl rfl
instance ty11 : Ty Tryd.prog 11 false [Value.string ⟨#[]⟩] := .mk' (v := Value.string ⟨#[]⟩) (k := 1) (by kernel_rfl) (by kernel_rfl) rfl rfl
instance ty12 : Ty Tryd.prog 12 false [Value.int .u64 0] := .mk' (v := Value.int .u64 0) (k := 1) (by kernel_rfl) (by kernel_rfl) rfl rfl
instance ty13 : Ty Tryd.prog 13 true [Value.string ⟨#[]⟩, Value.int .u64 0] := .mk' (v := .agg #[Value.string ⟨#[]⟩, Value.int .u64 0]) (k := 2) (by kernel_rfl) (by kernel_rfl) rfl rfl
instance ty14 : Ty Tryd.prog 14 true [Value.string ⟨#[]⟩, Value.int .u64 0] := .mk' (v := .agg #[Value.string ⟨#[]⟩, Value.int .u64 0]) (k := 2) (by kernel_rfl) (by kernel_rfl) rfl rfl
instance ty15 : Ty Tryd.prog 15 false [Value.pointer none] := .mk' (v := Value.pointer none) (k := 1) (by kernel_rfl) (by kernel_rfl) rfl rfl
instance ty16 : Ty Tryd.prog 16 false [Value.pointer none] := .mk' (v := Value.pointer none) (k := 1) (by kernel_rfl) (by kernel_rfl) rfl rfl
instance ty17 : Ty Tryd.prog 17 false [Value.pointer none] := .mk' (v := Value.pointer none) (k := 1) (by kernel_rfl) (by kernel_rfl) rfl rfl
instance ty18 : Ty Tryd.prog 18 true [Value.pointer none] := .mk' (v := .agg #[Value.pointer none]) (k := 1) (by kernel_rfl) (by kernel_rfl) rfl rfl
instance ty19 : Ty Tryd.prog 19 true [Value.pointer none] := .mk' (v := .agg #[Value.pointer none]) (k := 1) (by kernel_rfl) (by kernel_rfl) rfl rfl
instance ty20 : Ty Tryd.prog 20 false [Value.nilIface] := .mk' (v := Value.nilIface) (k := 1) (by kernel_rfl) (by kernel_rfl) rfl rfl
instance ty21 : Ty Tryd.prog 21 false [Value.int .i32 0] := .mk' (v := Value.int .i32 0) (k := 1) (by kernel_rfl) (by kernel_rfl) rfl rfl
instance ty22 : Ty Tryd.prog 22 false [Value.slice none 0 0] := .mk' (v := Value.slice none 0 0) (k := 1) (by kernel_rfl) (by kernel_rfl) rfl rfl
instance ty23 : Ty Tryd.prog 23 false [Value.nilFunc] := .mk' (v := Value.nilFunc) (k := 1) (by kernel_rfl) (by kernel_rfl) rfl rfl
instance ty24 : Ty Tryd.prog 24 false [Value.slice none 0 0] := .mk' (v := Value.slice none 0 0) (k := 1) (by kernel_rfl) (by kernel_rfl) rfl rfl
instance ty25 : Ty Tryd.prog 25 true [Value.int .i64 0, Value.int .i64 0, Value.slice none 0 0] := .mk' (v := .agg #[Value.int .i64 0, Value.int .i64 0, Value.slice none 0 0]) (k := 3) (by kernel_rfl) (by kernel_rfl) rfl rfl
instance ty26 : Ty Tryd.prog 26 true [Value.int .i64 0, Value.int .i64 0, Value.slice none 0 0] := .mk' (v := .agg #[Value.int .i64 0, Value.int .i64 0, Value.slice none 0 0]) (k := 3) (by kernel_rfl) (by kernel_rfl) rfl rfl
instance ty27 : Ty Tryd.prog 27 false [Value.int .i64 0] := .mk' (v := Value.int .i64 0) (k := 1) (by kernel_rfl) (by kernel_rfl) rfl rfl
instance ty28 : Ty Tryd.prog 28 true [Value.int .i64 0, Value.int .i64 0, Value.int .i64 0, Value.slice none 0 0, Value.int .i64 0] := .mk' (v := .agg #[Value.int .i64 0, Value.int .i64 0, Value.int .i64 0, Value.slice none 0 0, Value.int .i64 0]) (k := 5) (by kernel_rfl) (by kernel_rfl) rfl rfl
instance ty29 : Ty Tryd.prog 29 true [Value.int .i64 0, Value.int .i64 0, Value.int .i64 0, Value.slice none 0 0, Value.int .i64 0] := .mk' (v := .agg #[Value.int .i64 0, Value.int .i64 0, Value.int .i64 0, Value.slice none 0 0, Value.int .i64 0]) (k := 5) (by kernel_rfl) (by kernel_rfl) rfl rfl
instance ty30 : Ty Tryd.prog 30 false [Value.slice none 0 0] := .mk' (v := Value.slice none 0 0) (k := 1) (by kernel_rfl) (by kernel_rfl) rfl rfl
instance ty31 : Ty Tryd.prog 31 false [Value.nilFunc] := .mk' (v := Value.nilFunc) (k := 1) (by kernel_rfl) (by kernel_rfl) rfl rfl
instance ty32 : Ty Tryd.prog 32 false [Value.pointer none] := .mk' (v := Value.pointer none) (k := 1) (by kernel_rfl) (by kernel_rfl) rfl rfl
instance ty33 : Ty Tryd.prog 33 false [Value.nilFunc] := .mk' (v := Value.nilFunc) (k := 1) (by kernel_rfl) (by kernel_rfl) rfl rfl
instance ty34 : Ty Tryd.prog 34 false [Value.pointer none] := .mk' (v := Value.pointer none) (k := 1) (by kernel_rfl) (by kernel_rfl) rfl rfl
instance ty35 : Ty Tryd.prog 35 false [Value.slice none 0 0] := .mk' (v := Value.slice none 0 0) (k := 1) (by kernel_rfl) (by kernel_rfl) rfl rfl
instance ty36 : Ty Tryd.prog 36 true [Value.slice none 0 0] := .mk' (v := .agg #[Value.slice none 0 0]) (k := 1) (by kernel_rfl) (by kernel_rfl) rfl rfl
instance ty37 : Ty Tryd.prog 37 true [Value.slice none 0 0] := .mk' (v := .agg #[Value.slice none 0 0]) (k := 1) (by kernel_rfl) (by kernel_rfl) rfl rfl
instance ty38 : Ty Tryd.prog 38 true [Value.int .i64 0, Value.int .i64 0, Value.int .i64 0, Value.int .i64 0, Value.int .i64 0, Value.int .i64 0] := .mk' (v := .agg #[Value.int .i64 0, Value.int .i64 0, Value.int .i64 0, Value.int .i64 0, Value.int .i64 0, Value.int .i64 0]) (k := 6) (by kernel_rfl) (by kernel_rfl) rfl rfl
instance ty39 : Ty Tryd.prog 39 true [Value.int .i64 0, Value.int .i64 0, Value.int .i64 0, Value.slice none 0 0, Value.int .i64 0, Value.int .i64 0, Value.int .i64 0, Value.int .i64 0, Value.slice none 0 0, Value.int .i64 0, Value.int .i64 0, Value.int .i64 0, Value.int .i64 0, Value.slice none 0 0, Value.int .i64 0, Value.int .i64 0, Value.int .i64 0, Value.int .i64 0, Value.slice none 0 0, Value.int .i64 0, Value.int .i64 0, Value.int .i64 0, Value.int .i64 0, Value.slice none 0 0, Value.int .i64 0, Value.int .i64 0, Value.int .i64 0, Value.int .i64 0, Value.slice none 0 0, Value.int .i64 0] := .mk' (v := .agg #[Value.int .i64 0, Value.int .i64 0, Value.int .i64 0, Value.slice none 0 0, Value.int .i64 0, Value.int .i64 0, Value.int .i64 0, Value.int .i64 0, Value.slice none 0 0, Value.int .i64 0, Value.int .i64 0, Value.int .i64 0, Value.int .i64 0, Value.slice none 0 0, Value.int .i64 0, Value.int .i64 0, Value.int .i64 0, Value.int .i64 0, Value.slice none 0 0, Value.int .i64 0, Value.int .i64 0, Value.int .i64 0, Value.int .i64 0, Value.slice none 0 0, Value.int .i64 0, Value.int .i64 0, Value.int .i64 0, Value.int .i64 0, Value.slice none 0 0, Value.int .i64 0]) (k := 30) (by kernel_rfl) (by kernel_rfl) rfl rfl
instance ty40 : Ty Tryd.prog 40 true [Value.int .i64 0, Value.slice none 0 0, Value.int .i64 0, Value.int .i64 0, Value.int .i64 0, Value.int .i64 0, Value.int .i64 0, Value.int .i64 0, Value.int .i64 0, Value.int .i64 0, Value.int .i64 0, Value.slice none 0 0, Value.int .i64 0, Value.int .i64 0, Value.int .i64 0, Value.int .i64 0, Value.slice none 0 0, Value.int .i64 0, Value.int .i64 0, Value.int .i64 0, Value.int .i64 0, Value.slice none 0 0, Value.int .i64 0, Value.int .i64 0, Value.int .i64 0, Value.int .i64 0, Value.slice none 0 0, Value.int .i64 0, Value.int .i64 0, Value.int .i64 0, Value.int .i64 0, Value.slice none 0 0, Value.int .i64 0, Value.int .i64 0, Value.int .i64 0, Value.int .i64 0, Value.slice none 0 0, Value.int .i64 0] := .mk' (v := .agg #[Value.int .i64 0, Value.slice none 0 0, Value.int .i64 0, Value.int .i64 0, Value.int .i64 0, Value.int .i64 0, Value.int .i64 0, Value.int .i64 0, Value.int .i64 0, Value.int .i64 0, Value.int .i64 0, Value.slice none 0 0, Value.int .i64 0, Value.int .i64 0, Value.int .i64 0, Value.int .i64 0, Value.slice none 0 0, Value.int .i64 0, Value.int .i64 0, Value.int .i64 0, Value.int .i64 0, Value.slice none 0 0, Value.int .i64 0, Value.int .i64 0, Value.int .i64 0, Value.int .i64 0, Value.slice none 0 0, Value.int .i64 0, Value.int .i64 0, Value.int .i64 0, Value.int .i64 0, Value.slice none 0 0, Value.int .i64 0, Value.int .i64 0, Value.int .i64 0, Value.int .i64 0, Value.slice none 0 0, Value.int .i64 0]) (k := 38) (by kernel_rfl) (by kernel_rfl) rfl rfl
instance ty41 : Ty Tryd.prog 41 true [Value.int .i64 0, Value.slice none 0 0, Value.int .i64 0, Value.int .i64 0, Value.int .i64 0, Value.int .i64 0, Value.int .i64 0, Value.int .i64 0, Value.int .i64 0, Value.int .i64 0, Value.int .i64 0, Value.slice none 0 0, Value.int .i64 0, Value.int .i64 0, Value.int .i64 0, Value.int .i64 0, Value.slice none 0 0, Value.int .i64 0, Value.int .i64 0, Value.int .i64 0, Value.int .i64 0, Value.slice none 0 0, Value.int .i64 0, Value.int .i64 0, Value.int .i64 0, Value.int .i64 0, Value.slice none 0 0, Value.int .i64 0, Value.int .i64 0, Value.int .i64 0, Value.int .i64 0, Value.slice none 0 0, Value.int .i64 0, Value.int .i64 0, Value.int .i64 0, Value.int .i64 0, Value.slice none 0 0, Value.int .i64 0] := .mk' (v := .agg #[Value.int .i64 0, Value.slice none 0 0, Value.int .i64 0, Value.int .i64 0, Value.int .i64 0, Value.int .i64 0, Value.int .i64 0, Value.int .i64 0, Value.int .i64 0, Value.int .i64 0, Value.int .i64 0, Value.slice none 0 0, Value.int .i64 0, Value.int .i64 0, Value.int .i64 0, Value.int .i64 0, Value.slice none 0 0, Value.int .i64 0, Value.int .i64 0, Value.int .i64 0, Value.int .i64 0, Value.slice none 0 0, Value.int .i64 0, Value.int .i64 0, Value.int .i64 0, Value.int .i64 0, Value.slice none 0 0, Value.int .i64 0, Value.int .i64 0, Value.int .i64 0, Value.int .i64 0, Value.slice none 0 0, Value.int .i64 0, Value.int .i64 0, Value.int .i64 0, Value.int .i64 0, Value.slice none 0 0, Value.int .i64 0]) (k := 38) (by kernel_rfl) (by kernel_rfl) rfl rfl
instance ty42 : Ty Tryd.prog 42 true [Value.int .i64 0, Value.slice none 0 0, Value.int .i64 0, Value.int .i64 0, Value.int .i64 0, Value.int .i64 0, Value.int .i64 0, Value.int .i64 0, Value.int .i64 0, Value.int .i64 0, Value.int .i64 0, Value.slice none 0 0, Value.int .i64 0, Value.int .i64 0, Value.int .i64 0, Value.int .i64 0, Value.slice none 0 0, Value.int .i64 0, Value.int .i64 0, Value.int .i64 0, Value.int .i64 0, Value.slice none 0 0, Value.int .i64 0, Value.int .i64 0, Value.int .i64 0, Value.int .i64 0, Value.slice none 0 0, Value.int .i64 0, Value.int .i64 0, Value.int .i64 0, Value.int .i64 0, Value.slice none 0 0, Value.int .i64 0, Value.int .i64 0, Value.int .i64 0, Value.int .i64 0, Value.slice none 0 0, Value.int .i64 0, Value.slice none 0 0] := .mk' (v := .agg #[Value.int .i64 0, Value.slice none 0 0, Value.int .i64 0, Value.int .i64 0, Value.int .i64 0, Value.int .i64 0, Value.int .i64 0, Value.int .i64 0, Value.int .i64 0, Value.int .i64 0, Value.int .i64 0, Value.slice none 0 0, Value.int .i64 0, Value.int .i64 0, Value.int .i64 0, Value.int .i64 0, Value.slice none 0 0, Value.int .i64 0, Value.int .i64 0, Value.int .i64 0, Value.int .i64 0, Value.slice none 0 0, Value.int .i64 0, Value.int .i64 0, Value.int .i64 0, Value.int .i64 0, Value.slice none 0 0, Value.int .i64 0, Value.int .i64 0, Value.int .i64 0, Value.int .i64 0, Value.slice none 0 0, Value.int .i64 0, Value.int .i64 0, Value.int .i64 0, Value.int .i64 0, Value.slice none 0 0, Value.int .i64 0, Value.slice none 0 0]) (k := 39) (by kernel_rfl) (by kernel_rfl) rfl rfl
instance ty43 : Ty Tryd.prog 43 true [Value.int .i64 0, Value.slice none 0 0, Value.int .i64 0, Value.int .i64 0, Value.int .i64 0, Value.int .i64 0, Value.int .i64 0, Value.int .i64 0, Value.int .i64 0, Value.int .i64 0, Value.int .i64 0, Value.slice none 0 0, Value.int .i64 0, Value.int .i64 0, Value.int .i64 0, Value.int .i64 0, Value.slice none 0 0, Value.int .i64 0, Value.int .i64 0, Value.int .i64 0, Value.int .i64 0, Value.slice none 0 0, Value.int .i64 0, Value.int .i64 0, Value.int .i64 0, Value.int .i64 0, Value.slice none 0 0, Value.int .i64 0, Value.int .i64 0, Value.int .i64 0, Value.int .i64 0, Value.slice none 0 0, Value.int .i64 0, Value.int .i64 0, Value.int .i64 0, Value.int .i64 0, Value.slice none 0 0, Value.int .i64 0, Value.slice none 0 0] := .mk' (v := .agg #[Value.int .i64 0, Value.slice none 0 0, Value.int .i64 0, Value.int .i64 0, Value.int .i64 0, Value.int .i64 0, Value.int .i64 0, Value.int .i64 0, Value.int .i64 0, Value.int .i64 0, Value.int .i64 0, Value.slice none 0 0, Value.int .i64 0, Value.int .i64 0, Value.int .i64 0, Value.int .i64 0, Value.slice none 0 0, Value.int .i64 0, Value.int .i64 0, Value.int .i64 0, Value.int .i64 0, Value.slice none 0 0, Value.int .i64 0, Value.int .i64 0, Value.int .i64 0, Value.int .i64 0, Value.slice none 0 0, Value.int .i64 0, Value.int .i64 0, Value.int .i64 0, Value.int .i64 0, Value.slice none 0 0, Value.int .i64 0, Value.int .i64 0, Value.int .i64 0, Value.int .i64 0, Value.slice none 0 0, Value.int .i64 0, Value.slice none 0 0]) (k := 39) (by kernel_rfl) (by kernel_rfl) rfl rfl
instance ty45 : Ty Tryd.prog 45 false [Value.nilFunc] := .mk' (v := Value.nilFunc) (k := 1) (by kernel_rfl) (by kernel_rfl) rfl rfl
instance ty46 : Ty Tryd.prog 46 false [Value.nilFunc] := .mk' (v := Value.nilFunc) (k := 1) (by kernel_rfl) (by kernel_rfl) rfl rfl
instance ty47 : Ty Tryd.prog 47 false [Value.nilFunc] := .mk' (v := Value.nilFunc) (k := 1) (by kernel_rfl) (by kernel_rfl) rfl rfl
instance ty48 : Ty Tryd.prog 48 false [Value.nilFunc] := .mk' (v := Value.nilFunc) (k := 1) (by kernel_rfl) (by kernel_rfl) rfl rfl
instance ty49 : Ty Tryd.prog 49 false [Value.nilFunc] := .mk' (v := Value.nilFunc) (k := 1) (by kernel_rfl) (by kernel_rfl) rfl rfl
instance ty50 : Ty Tryd.prog 50 false [Value.slice none 0 0] := .mk' (v := Value.slice none 0 0) (k := 1) (by kernel_rfl) (by kernel_rfl) rfl rfl
instance ty51 : Ty Tryd.prog 51 false [Value.nilFunc] := .mk' (v := Value.nilFunc) (k := 1) (by kernel_rfl) (by kernel_rfl) rfl rfl
instance ty52 : Ty Tryd.prog 52 false [Value.nilFunc] := .mk' (v := Value.nilFunc) (k := 1) (by kernel_rfl) (by kernel_rfl) rfl rfl
instance ty53 : Ty Tryd.prog 53 false [Value.nilFunc] := .mk' (v := Value.nilFunc) (k := 1) (by kernel_rfl) (by kernel_rfl) rfl rfl
instance ty54 : Ty Tryd.prog 54 false [Value.pointer none] := .mk' (v := Value.pointer none) (k := 1) (by kernel_rfl) (by kernel_rfl) rfl rfl
instance ty55 : Ty Tryd.prog 55 false [Value.nilFunc] := .mk' (v := Value.nilFunc) (k := 1) (by kernel_rfl) (by kernel_rfl) rfl rfl
instance ty56 : Ty Tryd.prog 56 false [Value.nilFunc] := .mk' (v := Value.nilFunc) (k := 1) (by kernel_rfl) (by kernel_rfl) rfl rfl
instance ty57 : Ty Tryd.prog 57 true [Value.int .i64 0, Value.int .i64 0, Value.string ⟨#[]⟩] := .mk' (v := .agg #[Value.int .i64 0, Value.int .i64 0, Value.string ⟨#[]⟩]) (k := 3) (by kernel_rfl) (by kernel_rfl) rfl rfl
instance ty58 : Ty Tryd.prog 58 true [Value.int .i64 0, Value.int .i64 0, Value.string ⟨#[]⟩] := .mk' (v := .agg #[Value.int .i64 0, Value.int .i64 0, Value.string ⟨#[]⟩]) (k := 3) (by kernel_rfl) (by kernel_rfl) rfl rfl
instance ty59 : Ty Tryd.prog 59 true [Value.int .i64 0, Value.string ⟨#[]⟩, Value.int .i64 0, Value.int .i64 0, Value.string ⟨#[]⟩, Value.int .i64 0, Value.int .i64 0, Value.string ⟨#[]⟩, Value.int .i64 0] := .mk' (v := .agg #[Value.int .i64 0, Value.string ⟨#[]⟩, Value.int .i64 0, Value.int .i64 0, Value.string ⟨#[]⟩, Value.int .i64 0, Value.int .i64 0, Value.string ⟨#[]⟩, Value.int .i64 0]) (k := 9) (by kernel_rfl) (by kernel_rfl) rfl rfl
instance ty60 : Ty Tryd.prog 60 true [Value.int .i64 0, Value.string ⟨#[]⟩, Value.int .i64 0, Value.int .i64 0, Value.string ⟨#[]⟩, Value.int .i64 0, Value.int .i64 0, Value.string ⟨#[]⟩, Value.int .i64 0] := .mk' (v := .agg #[Value.int .i64 0, Value.string ⟨#[]⟩, Value.int .i64 0, Value.int .i64 0, Value.string ⟨#[]⟩, Value.int .i64 0, Value.int .i64 0, Value.string ⟨#[]⟩, Value.int .i64 0]) (k := 9) (by kernel_rfl) (by kernel_rfl) rfl rfl
instance ty61 : Ty Tryd.prog 61 false [Value.nilFunc] := .mk' (v := Value.nilFunc) (k := 1) (by kernel_rfl) (by kernel_rfl) rfl rfl
instance ty62 : Ty Tryd.prog 62 true [Value.pointer none, Value.slice none 0 0] := .mk' (v := .agg #[Value.pointer none, Value.slice none 0 0]) (k := 2) (by kernel_rfl) (by kernel_rfl) rfl rfl
instance ty63 : Ty Tryd.prog 63 true [Value.pointer none, Value.slice none 0 0] := .mk' (v := .agg #[Value.pointer none, Value.slice none 0 0]) (k := 2) (by kernel_rfl) (by kernel_rfl) rfl rfl
instance ty65 : Ty Tryd.prog 65 false [Value.nilFunc] := .mk' (v := Value.nilFunc) (k := 1) (by kernel_rfl) (by kernel_rfl) rfl rfl
instance ty66 : Ty Tryd.prog 66 false [Value.nilFunc] := .mk' (v := Value.nilFunc) (k := 1) (by kernel_rfl) (by kernel_rfl) rfl rfl
instance ty68 : Ty Tryd.prog 68 false [Value.nilFunc] := .mk' (v := Value.nilFunc) (k := 1) (by kernel_rfl) (by kernel_rfl) rfl rfl
instance ty69 : Ty Tryd.prog 69 false [Value.nilFunc] := .mk' (v := Value.nilFunc) (k := 1) (by kernel_rfl) (by kernel_rfl) rfl rfl
instance ty71 : Ty Tryd.prog 71 false [Value.nilFunc] := .mk' (v := Value.nilFunc) (k := 1) (by kernel_rfl) (by kernel_rfl) rfl rfl
instance ty72 : Ty Tryd.prog 72 false [Value.pointer none] := .mk' (v := Value.pointer none) (k := 1) (by kernel_rfl) (by kernel_rfl) rfl rfl
instance ty73 : Ty Tryd.prog 73 true [Value.int .i64 0, Value.int .i64 0, Value.int .i64 0, Value.int .i64 0, Value.slice none 0 0, Value.int .i64 0] := .mk' (v := .agg #[Value.int .i64 0, Value.int .i64 0, Value.int .i64 0, Value.int .i64 0, Value.slice none 0 0, Value.int .i64 0]) (k := 6) (by kernel_rfl) (by kernel_rfl) rfl rfl
instance ty74 : Ty Tryd.prog 74 true [Value.int .i64 0, Value.int .i64 0, Value.int .i64 0, Value.int .i64 0, Value.slice none 0 0, Value.int .i64 0] := .mk' (v := .agg #[Value.int .i64 0, Value.int .i64 0, Value.int .i64 0, Value.int .i64 0, Value.slice none 0 0, Value.int .i64 0]) (k := 6) (by kernel_rfl) (by kernel_rfl) rfl rfl
instance ty75 : Ty Tryd.prog 75 true [Value.int .i64 0, Value.int .i64 0, Value.int .i64 0, Value.int .i64 0, Value.slice none 0 0, Value.int .i64 0, Value.int .i64 0, Value.int .i64 0, Value.int .i64 0, Value.int .i64 0, Value.slice none 0 0, Value.int .i64 0, Value.int .i64 0, Value.int .i64 0, Value.int .i64 0, Value.int .i64 0, Value.slice none 0 0, Value.int .i64 0, Value.int .i64 0, Value.int .i64 0, Value.int .i64 0, Value.int .i64 0, Value.slice none 0 0, Value.int .i64 0, Value.int .i64 0, Value.int .i64 0, Value.int .i64 0, Value.int .i64 0, Value.slice none 0 0, Value.int .i64 0, Value.int .i64 0, Value.int .i64 0, Value.int .i64 0, Value.int .i64 0, Value.slice none 0 0, Value.int .i64 0] := .mk' (v := .agg #[Value.int .i64 0, Value.int .i64 0, Value.int .i64 0, Value.int .i64 0, Value.slice none 0 0, Value.int .i64 0, Value.int .i64 0, Value.int .i64 0, Value.int .i64 0, Value.int .i64 0, Value.slice none 0 0, Value.int .i64 0, Value.int .i64 0, Value.int .i64 0, Value.int .i64 0, Value.int .i64 0, Value.slice none 0 0, Value.int .i64 0, Value.int .i64 0, Value.int .i64 0, Value.int .i64 0, Value.int .i64 0, Value.slice none 0 0, Value.int .i64 0, Value.int .i64 0, Value.int .i64 0, Value.int .i64 0, Value.int .i64 0, Value.slice none 0 0, Value.int .i64 0, Value.int .i64 0, Value.int .i64 0, Value.int .i64 0, Value.int .i64 0, Value.slice none 0 0, Value.int .i64 0]) (k := 36) (by kernel_rfl) (by kernel_rfl) rfl rfl
instance ty76 : Ty Tryd.prog 76 true [Value.int .i64 0, Value.pointer none, Value.int .i64 0, Value.int .i64 0, Value.int .i64 0, Value.int .i64 0, Value.slice none 0 0, Value.int .i64 0, Value.int .i64 0, Value.int .i64 0, Value.int .i64 0, Value.int .i64 0, Value.slice none 0 0, Value.int .i64 0, Value.int .i64 0, Value.int .i64 0, Value.int .i64 0, Value.int .i64 0, Value.slice none 0 0, Value.int .i64 0, Value.int .i64 0, Value.int .i64 0, Value.int .i64 0, Value.int .i64 0, Value.slice none 0 0, Value.int .i64 0, Value.int .i64 0, Value.int .i64 0, Value.int .i64 0, Value.int .i64 0, Value.slice none 0 0, Value.int .i64 0, Value.int .i64 0, Value.int .i64 0, Value.int .i64 0, Value.int .i64 0, Value.slice none 0 0, Value.int .i64 0] := .mk' (v := .agg #[Value.int .i64 0, Value.pointer none, Value.int .i64 0, Value.int .i64 0, Value.int .i64 0, Value.int .i64 0, Value.slice none 0 0, Value.int .i64 0, Value.int .i64 0, Value.int .i64 0, Value.int .i64 0, Value.int .i64 0, Value.slice none 0 0, Value.int .i64 0, Value.int .i64 0, Value.int .i64 0, Value.int .i64 0, Value.int .i64 0, Value.slice none 0 0, Value.int .i64 0, Value.int .i64 0, Value.int .i64 0, Value.int .i64 0, Value.int .i64 0, Value.slice none 0 0, Value.int .i64 0, Value.int .i64 0, Value.int .i64 0, Value.int .i64 0, Value.int .i64 0, Value.slice none 0 0, Value.int .i64 0, Value.int .i64 0, Value.int .i64 0, Value.int .i64 0, Value.int .i64 0, Value.slice none 0 0, Value.int .i64 0]) (k := 38) (by kernel_rfl) (by kernel_rfl) rfl rfl
instance ty77 : Ty Tryd.prog 77 true [Value.int .i64 0, Value.pointer none, Value.int .i64 0, Value.int .i64 0, Value.int .i64 0, Value.int .i64 0, Value.slice none 0 0, Value.int .i64 0, Value.int .i64 0, Value.int .i64 0, Value.int .i64 0, Value.int .i64 0, Value.slice none 0 0, Value.int .i64 0, Value.int .i64 0, Value.int .i64 0, Value.int .i64 0, Value.int .i64 0, Value.slice none 0 0, Value.int .i64 0, Value.int .i64 0, Value.int .i64 0, Value.int .i64 0, Value.int .i64 0, Value.slice none 0 0, Value.int .i64 0, Value.int .i64 0, Value.int .i64 0, Value.int .i64 0, Value.int .i64 0, Value.slice none 0 0, Value.int .i64 0, Value.int .i64 0, Value.int .i64 0, Value.int .i64 0, Value.int .i64 0, Value.slice none 0 0, Value.int .i64 0] := .mk' (v := .agg #[Value.int .i64 0, Value.pointer none, Value.int .i64 0, Value.int .i64 0, Value.int .i64 0, Value.int .i64 0, Value.slice none 0 0, Value.int .i64 0, Value.int .i64 0, Value.int .i64 0, Value.int .i64 0, Value.int .i64 0, Value.slice none 0 0, Value.int .i64 0, Value.int .i64 0, Value.int .i64 0, Value.int .i64 0, Value.int .i64 0, Value.slice none 0 0, Value.int .i64 0, Value.int .i64 0, Value.int .i64 0, Value.int .i64 0, Value.int .i64 0, Value.slice none 0 0, Value.int .i64 0, Value.int .i64 0, Value.int .i64 0, Value.int .i64 0, Value.int .i64 0, Value.slice none 0 0, Value.int .i64 0, Value.int .i64 0, Value.int .i64 0, Value.int .i64 0, Value.int .i64 0, Value.slice none 0 0, Value.int .i64 0]) (k := 38) (by kernel_rfl) (by kernel_rfl) rfl rfl
instance ty78 : Ty Tryd.prog 78 false [Value.nilFunc] := .mk' (v := Value.nilFunc) (k := 1) (by kernel_rfl) (by kernel_rfl) rfl rfl
instance ty79 : Ty Tryd.prog 79 false [Value.nilFunc] := .mk' (v := Value.nilFunc) (k := 1) (by kernel_rfl) (by kernel_rfl) rfl rfl
instance ty81 : Ty Tryd.prog 81 false [Value.nilFunc] := .mk' (v := Value.nilFunc) (k := 1) (by kernel_rfl) (by kernel_rfl) rfl rfl
instance ty82 : Ty Tryd.prog 82 false [Value.nilFunc] := .mk' (v := Value.nilFunc) (k := 1) (by kernel_rfl) (by kernel_rfl) rfl rfl
instance ty83 : Ty Tryd.prog 83 false [Value.nilFunc] := .mk' (v := Value.nilFunc) (k := 1) (by kernel_rfl) (by kernel_rfl) rfl rfl
instance ty85 : Ty Tryd.prog 85 false [Value.nilFunc] := .mk' (v := Value.nilFunc) (k := 1) (by kernel_rfl) (by kernel_rfl) rfl rfl
instance ty86 : Ty Tryd.prog 86 false [Value.nilFunc] := .mk' (v := Value.nilFunc) (k := 1) (by kernel_rfl) (by kernel_rfl) rfl rfl
instance ty87 : Ty Tryd.prog 87 false [Value.nilFunc] := .mk' (v := Value.nilFunc) (k := 1) (by kernel_rfl) (by kernel_rfl) rfl rfl
instance ty88 : Ty Tryd.prog 88 false [Value.map none] := .mk' (v := Value.map none) (k := 1) (by kernel_rfl) (by kernel_rfl) rfl rfl
instance ty89 : Ty Tryd.prog 89 true [Value.map none] := .mk' (v := .agg #[Value.map none]) (k := 1) (by kernel_rfl) (by kernel_rfl) rfl rfl
instance ty90 : Ty Tryd.prog 90 true [Value.map none] := .mk' (v := .agg #[Value.map none]) (k := 1) (by kernel_rfl) (by kernel_rfl) rfl rfl
instance ty91 : Ty Tryd.prog 91 false [Value.nilFunc] := .mk' (v := Value.nilFunc) (k := 1) (by kernel_rfl) (by kernel_rfl) rfl rfl
instance ty92 : Ty Tryd.prog 92 false [Value.nilFunc] := .mk' (v := Value.nilFunc) (k := 1) (by kernel_rfl) (by kernel_rfl) rfl rfl
instance ty93 : Ty Tryd.prog 93 false [Value.nilFunc] := .mk' (v := Value.nilFunc) (k := 1) (by kernel_rfl) (by kernel_rfl) rfl rfl
instance ty94 : Ty Tryd.prog 94 false [Value.nilFunc] := .mk' (v := Value.nilFunc) (k := 1) (by kernel_rfl) (by kernel_rfl) rfl rfl
instance ty95 : Ty Tryd.prog 95 false [Value.nilFunc] := .mk' (v := Value.nilFunc) (k := 1) (by kernel_rfl) (by kernel_rfl) rfl rfl
instance ty96 : Ty Tryd.prog 96 false [Value.slice none 0 0] := .mk' (v := Value.slice none 0 0) (k := 1) (by kernel_rfl) (by kernel_rfl) rfl rfl
instance ty97 : Ty Tryd.prog 97 false [Value.nilFunc] := .mk' (v := Value.nilFunc) (k := 1) (by kernel_rfl) (by kernel_rfl) rfl rfl
instance ty98 : Ty Tryd.prog 98 false [Value.nilFunc] := .mk' (v := Value.nilFunc) (k := 1) (by kernel_rfl) (by kernel_rfl) rfl rfl
instance ty100 : Ty Tryd.prog 100 false [Value.nilFunc] := .mk' (v := Value.nilFunc) (k := 1) (by kernel_rfl) (by kernel_rfl) rfl rfl
instance ty101 : Ty Tryd.prog 101 false [Value.nilFunc] := .mk' (v := Value.nilFunc) (k := 1) (by kernel_rfl) (by kernel_rfl) rfl rfl
instance ty102 : Ty Tryd.prog 102 false [Value.nilFunc] := .mk' (v := Value.nilFunc) (k := 1) (by kernel_rfl) (by kernel_rfl) rfl rfl
instance ty103 : Ty Tryd.prog 103 false [Value.nilFunc] := .mk' (v := Value.nilFunc) (k := 1) (by kernel_rfl) (by kernel_rfl) rfl rfl
instance ty104 : Ty Tryd.prog 104 false [Value.nilIface] := .mk' (v := Value.nilIface) (k := 1) (by kernel_rfl) (by kernel_rfl) rfl rfl
instance ty105 : Ty Tryd.prog 105 false [Value.nilIface] := .mk' (v := Value.nilIface) (k := 1) (by kernel_rfl) (by kernel_rfl) rfl rfl
instance ty106 : Ty Tryd.prog 106 true [Value.nilIface] := .mk' (v := .agg #[Value.nilIface]) (k := 1) (by kernel_rfl) (by kernel_rfl) rfl rfl
instance ty107 : Ty Tryd.prog 107 true [Value.nilIface] := .mk' (v := .agg #[Value.nilIface]) (k := 1) (by kernel_rfl) (by kernel_rfl) rfl rfl
instance ty108 : Ty Tryd.prog 108 false [Value.nilFunc] := .mk' (v := Value.nilFunc) (k := 1) (by kernel_rfl) (by kernel_rfl) rfl rfl
instance ty109 : Ty Tryd.prog 109 false [Value.nilFunc] := .mk' (v := Value.nilFunc) (k := 1) (by kernel_rfl) (by kernel_rfl) rfl rfl
instance ty110 : Ty Tryd.prog 110 false [Value.nilFunc] := .mk' (v := Value.nilFunc) (k := 1) (by kernel_rfl) (by kernel_rfl) rfl rfl
instance ty111 : Ty Tryd.prog 111 false [Value.nilFunc] := .mk' (v := Value.nilFunc) (k := 1) (by kernel_rfl) (by kernel_rfl) rfl rfl
instance ty112 : Ty Tryd.prog 112 false [Value.nilFunc] := .mk' (v := Value.nilFunc) (k := 1) (by kernel_rfl) (by kernel_rfl) rfl rfl
instance ty113 : Ty Tryd.prog 113 false [Value.nilFunc] := .mk' (v := Value.nilFunc) (k := 1) (by kernel_rfl) (by kernel_rfl) rfl rfl
instance ty114 : Ty Tryd.prog 114 false [Value.nilFunc] := .mk' (v := Value.nilFunc) (k := 1) (by kernel_rfl) (by kernel_rfl) rfl rfl
instance ty115 : Ty Tryd.prog 115 true [Value.string ⟨#[]⟩, Value.int .i64 0, Value.int .i64 0, Value.string ⟨#[]⟩] := .mk' (v := .agg #[Value.string ⟨#[]⟩, Value.int .i64 0, Value.int .i64 0, Value.string ⟨#[]⟩]) (k := 4) (by kernel_rfl) (by kernel_rfl) rfl rfl
instance ty116 : Ty Tryd.prog 116 true [Value.string ⟨#[]⟩, Value.int .i64 0, Value.int .i64 0, Value.string ⟨#[]⟩] := .mk' (v := .agg #[Value.string ⟨#[]⟩, Value.int .i64 0, Value.int .i64 0, Value.string ⟨#[]⟩]) (k := 4) (by kernel_rfl) (by kernel_rfl) rfl rfl
instance ty117 : Ty Tryd.prog 117 false [Value.nilFunc] := .mk' (v := Value.nilFunc) (k := 1) (by kernel_rfl) (by kernel_rfl) rfl rfl
instance ty118 : Ty Tryd.prog 118 false [Value.slice none 0 0] := .mk' (v := Value.slice none 0 0) (k := 1) (by kernel_rfl) (by kernel_rfl) rfl rfl
instance ty119 : Ty Tryd.prog 119 false [Value.nilFunc] := .mk' (v := Value.nilFunc) (k := 1) (by kernel_rfl) (by kernel_rfl) rfl rfl
instance ty120 : Ty Tryd.prog 120 false [Value.nilFunc] := .mk' (v := Value.nilFunc) (k := 1) (by kernel_rfl) (by kernel_rfl) rfl rfl
instance ty121 : Ty Tryd.prog 121 false [Value.nilFunc] := .mk' (v := Value.nilFunc) (k := 1) (by kernel_rfl) (by kernel_rfl) rfl rfl
instance ty123 : Ty Tryd.prog 123 false [Value.nilFunc] := .mk' (v := Value.nilFunc) (k := 1) (by kernel_rfl) (by kernel_rfl) rfl rfl
instance ty124 : Ty Tryd.prog 124 false [Value.nilFunc] := .mk' (v := Value.nilFunc) (k := 1) (by kernel_rfl) (by kernel_rfl) rfl rfl
instance ty126 : Ty Tryd.prog 126 false [Value.nilFunc] := .mk' (v := Value.nilFunc) (k := 1) (by kernel_rfl) (by kernel_rfl) rfl rfl
instance ty127 : Ty Tryd.prog 127 false [Value.nilFunc] := .mk' (v := Value.nilFunc) (k := 1) (by kernel_rfl) (by kernel_rfl) rfl rfl
instance ty128 : Ty Tryd.prog 128 false [Value.nilFunc] := .mk' (v := Value.nilFunc) (k := 1) (by kernel_rfl) (by kernel_rfl) rfl rfl
instance ty129 : Ty Tryd.prog 129 false [Value.int .u64 0] := .mk' (v := Value.int .u64 0) (k := 1) (by kernel_rfl) (by kernel_rfl) rfl rfl
instance ty130 : Ty Tryd.prog 130 false [Value.slice none 0 0] := .mk' (v := Value.slice none 0 0) (k := 1) (by kernel_rfl) (by kernel_rfl) rfl rfl
instance ty132 : Ty Tryd.prog 132 false [Value.nilFunc] := .mk' (v := Value.nilFunc) (k := 1) (by kernel_rfl) (by kernel_rfl) rfl rfl
instance ty133 : Ty Tryd.prog 133 false [Value.int .u64 0] := .mk' (v := Value.int .u64 0) (k := 1) (by kernel_rfl) (by kernel_rfl) rfl rfl
instance ty134 : Ty Tryd.prog 134 false [Value.int .i64 0] := .mk' (v := Value.int .i64 0) (k := 1) (by kernel_rfl) (by kernel_rfl) rfl rfl
instance ty135 : Ty Tryd.prog 135 false [Value.string ⟨#[]⟩] := .mk' (v := Value.string ⟨#[]⟩) (k := 1) (by kernel_rfl) (by kernel_rfl) rfl rfl
instance ty136 : Ty Tryd.prog 136 false [Value.nilFunc] := .mk' (v := Value.nilFunc) (k := 1) (by kernel_rfl) (by kernel_rfl) rfl rfl
instance ty139 : Ty Tryd.prog 139 false [Value.nilFunc] := .mk' (v := Value.nilFunc) (k := 1) (by kernel_rfl) (by kernel_rfl) rfl rfl
instance ty140 : Ty Tryd.prog 140 false [Value.nilFunc] := .mk' (v := Value.nilFunc) (k := 1) (by kernel_rfl) (by kernel_rfl) rfl rfl
instance ty142 : Ty Tryd.prog 142 true [Value.int .u8 0, Value.int .u8 0] := .mk' (v := .agg #[Value.int .u8 0, Value.int .u8 0]) (k := 2) (by kernel_rfl) (by kernel_rfl) rfl rfl
instance ty143 : Ty Tryd.prog 143 true [Value.int .u8 0, Value.int .u8 0] := .mk' (v := .agg #[Value.int .u8 0, Value.int .u8 0]) (k := 2) (by kernel_rfl) (by kernel_rfl) rfl rfl
instance ty144 : Ty Tryd.prog 144 true [Value.int .u8 0, Value.int .u8 0, Value.int .u8 0, Value.int .u8 0, Value.int .u8 0, Value.int .u8 0, Value.int .u8 0, Value.int .u8 0, Value.int .u8 0, Value.int .u8 0, Value.int .u8 0, Value.int .u8 0, Value.int .u8 0, Value.int .u8 0, Value.int .u8 0, Value.int .u8 0, Value.int .u8 0, Value.int .u8 0, Value.int .u8 0, Value.int .u8 0, Value.int .u8 0, Value.int .u8 0, Value.int .u8 0, Value.int .u8 0, Value.int .u8 0, Value.int .u8 0, Value.int .u8 0, Value.int .u8 0, Value.int .u8 0, Value.int .u8 0, Value.int .u8 0, Value.int .u8 0] := .mk' (v := .agg #[Value.int .u8 0, Value.int .u8 0, Value.int .u8 0, Value.int .u8 0, Value.int .u8 0, Value.int .u8 0, Value.int .u8 0, Value.int .u8 0, Value.int .u8 0, Value.int .u8 0, Value.int .u8 0, Value.int .u8 0, Value.int .u8 0, Value.int .u8 0, Value.int .u8 0, Value.int .u8 0, Value.int .u8 0, Value.int .u8 0, Value.int .u8 0, Value.int .u8 0, Value.int .u8 0, Value.int .u8 0, Value.int .u8 0, Value.int .u8 0, Value.int .u8 0, Value.int .u8 0, Value.int .u8 0, Value.int .u8 0, Value.int .u8 0, Value.int .u8 0, Value.int .u8 0, Value.int .u8 0]) (k := 32) (by kernel_rfl) (by kernel_rfl) rfl rfl
instance ty145 : Ty Tryd.prog 145 false [Value.nilFunc] := .mk' (v := Value.nilFunc) (k := 1) (by kernel_rfl) (by kernel_rfl) rfl rfl
instance ty146 : Ty Tryd.prog 146 true [Value.pointer none, Value.pointer none, Value.pointer none, Value.string ⟨#[]⟩] := .mk' (v := .agg #[Value.pointer none, Value.pointer none, Value.pointer none, Value.string ⟨#[]⟩]) (k := 4) (by kernel_rfl) (by kernel_rfl) rfl rfl
instance ty147 : Ty Tryd.prog 147 true [Value.pointer none, Value.pointer none, Value.pointer none, Value.string ⟨#[]⟩] := .mk' (v := .agg #[Value.pointer none, Value.pointer none, Value.pointer none, Value.string ⟨#[]⟩]) (k := 4) (by kernel_rfl) (by kernel_rfl) rfl rfl
instance ty148 : Ty Tryd.prog 148 true [] := .mk' (v := .agg #[]) (k := 0) (by kernel_rfl) (by kernel_rfl) rfl rfl
instance ty149 : Ty Tryd.prog 149 true [] := .mk' (v := .agg #[]) (k := 0) (by kernel_rfl) (by kernel_rfl) rfl rfl
instance ty150 : Ty Tryd.prog 150 true [] := .mk' (v := .agg #[]) (k := 0) (by kernel_rfl) (by kernel_rfl) rfl rfl
instance ty151 : Ty Tryd.prog 151 false [Value.int .u32 0] := .mk' (v := Value.int .u32 0) (k := 1) (by kernel_rfl) (by kernel_rfl) rfl rfl
instance ty152 : Ty Tryd.prog 152 false [Value.int .u8 0] := .mk' (v := Value.int .u8 0) (k := 1) (by kernel_rfl) (by kernel_rfl) rfl rfl
instance ty153 : Ty Tryd.prog 153 false [Value.int .u8 0] := .mk' (v := Value.int .u8 0) (k := 1) (by kernel_rfl) (by kernel_rfl) rfl rfl
instance ty154 : Ty Tryd.prog 154 false [Value.nilFunc] := .mk' (v := Value.nilFunc) (k := 1) (by kernel_rfl) (by kernel_rfl) rfl rfl
instance ty155 : Ty Tryd.prog 155 false [Value.pointer none] := .mk' (v := Value.pointer none) (k := 1) (by kernel_rfl) (by kernel_rfl) rfl rfl
instance ty156 : Ty Tryd.prog 156 false [Value.int .i32 0] := .mk' (v := Value.int .i32 0) (k := 1) (by kernel_rfl) (by kernel_rfl) rfl rfl
instance ty157 : Ty Tryd.prog 157 false [Value.int .i32 0] := .mk' (v := Value.int .i32 0) (k := 1) (by kernel_rfl) (by kernel_rfl) rfl rfl
instance ty158 : Ty Tryd.prog 158 true [Value.int .u64 0, Value.int .u64 0, Value.int .u32 0, Value.int .u8 0, Value.int .u8 0, Value.int .u8 0, Value.int .u8 0, Value.nilFunc, Value.pointer none, Value.int .i32 0, Value.int .i32 0] := .mk' (v := .agg #[Value.int .u64 0, Value.int .u64 0, Value.int .u32 0, Value.int .u8 0, Value.int .u8 0, Value.int .u8 0, Value.int .u8 0, Value.nilFunc, Value.pointer none, Value.int .i32 0, Value.int .i32 0]) (k := 11) (by kernel_rfl) (by kernel_rfl) rfl rfl
instance ty159 : Ty Tryd.prog 159 true [Value.int .u64 0, Value.int .u64 0, Value.int .u32 0, Value.int .u8 0, Value.int .u8 0, Value.int .u8 0, Value.int .u8 0, Value.nilFunc, Value.pointer none, Value.int .i32 0, Value.int .i32 0] := .mk' (v := .agg #[Value.int .u64 0, Value.int .u64 0, Value.int .u32 0, Value.int .u8 0, Value.int .u8 0, Value.int .u8 0, Value.int .u8 0, Value.nilFunc, Value.pointer none, Value.int .i32 0, Value.int .i32 0]) (k := 11) (by kernel_rfl) (by kernel_rfl) rfl rfl
instance ty160 : Ty Tryd.prog 160 false [Value.nilFunc] := .mk' (v := Value.nilFunc) (k := 1) (by kernel_rfl) (by kernel_rfl) rfl rfl
instance ty161 : Ty Tryd.prog 161 false [Value.pointer none] := .mk' (v := Value.pointer none) (k := 1) (by kernel_rfl) (by kernel_rfl) rfl rfl
instance el1 : El Tryd.prog 1 1 8 := .mk' (z := Value.nilFunc) (by kernel_rfl) rfl
instance it2 : IntTy Tryd.prog 2 .i64 := ⟨by kernel_rfl⟩
instance el2 : El Tryd.prog 2 1 8 := .mk' (z := Value.int .i64 0) (by kernel_rfl) rfl
instance it3 : IntTy Tryd.prog 3 .i64 := ⟨by kernel_rfl⟩
instance el3 : El Tryd.prog 3 1 8 := .mk' (z := Value.int .i64 0) (by kernel_rfl) rfl
instance el4 : El Tryd.prog 4 1 1 := .mk' (z := Value.bool false) (by kernel_rfl) rfl
instance it5 : IntTy Tryd.prog 5 .u8 := ⟨by kernel_rfl⟩
instance el5 : El Tryd.prog 5 1 1 := .mk' (z := Value.int .u8 0) (by kernel_rfl) rfl
instance it6 : IntTy Tryd.prog 6 .u8 := ⟨by kernel_rfl⟩
instance el6 : El Tryd.prog 6 1 1 := .mk' (z := Value.int .u8 0) (by kernel_rfl) rfl
instance el7 : El Tryd.prog 7 4 24 := .mk' (z := .agg #[Value.int .i64 0, Value.int .i64 0, Value.bool false, Value.int .u8 0]) (by kernel_rfl) rfl
instance fl7_0 : Fld Tryd.prog 7 0 0 2 := .mk' (by kernel_rfl) (by kernel_rfl)
instance fl7_1 : Fld Tryd.prog 7 1 1 3 := .mk' (by kernel_rfl) (by kernel_rfl)
instance fl7_2 : Fld Tryd.prog 7 2 2 4 := .mk' (by kernel_rfl) (by kernel_rfl)
instance fl7_3 : Fld Tryd.prog 7 3 3 6 := .mk' (by kernel_rfl) (by kernel_rfl)
instance su7 : St Tryd.prog 7 [(0, 1), (1, 1), (2, 1), (3, 1)] := ⟨by kernel_rfl⟩
instance el8 : El Tryd.prog 8 4 24 := .mk' (z := .agg #[Value.int .i64 0, Value.int .i64 0, Value.bool false, Value.int .u8 0]) (by kernel_rfl) rfl
instance fl8_0 : Fld Tryd.prog 8 0 0 2 := .mk' (by kernel_rfl) (by kernel_rfl)
instance fl8_1 : Fld Tryd.prog 8 1 1 3 := .mk' (by kernel_rfl) (by kernel_rfl)
instance fl8_2 : Fld Tryd.prog 8 2 2 4 := .mk' (by kernel_rfl) (by kernel_rfl)
instance fl8_3 : Fld Tryd.prog 8 3 3 6 := .mk' (by kernel_rfl) (by kernel_rfl)
instance su8 : St Tryd.prog 8 [(0, 1), (1, 1), (2, 1), (3, 1)] := ⟨by kernel_rfl⟩
instance st9 : StrTy Tryd.prog 9 := ⟨by kernel_rfl⟩
instance el9 : El Tryd.prog 9 1 16 := .mk' (z := Value.string ⟨#[]⟩) (by kernel_rfl) rfl
instance st10 : StrTy Tryd.prog 10 := ⟨by kernel_rfl⟩
instance el10 : El Tryd.prog 10 1 16 := .mk' (z := Value.string ⟨#[]⟩) (by kernel_rfl) rfl
instance st11 : StrTy Tryd.prog 11 := ⟨by kernel_rfl⟩
instance el11 : El Tryd.prog 11 1 16 := .mk' (z := Value.string ⟨#[]⟩) (by kernel_rfl) rfl
instance it12 : IntTy Tryd.prog 12 .u64 := ⟨by kernel_rfl⟩
instance el12 : El Tryd.prog 12 1 8 := .mk' (z := Value.int .u64 0) (by kernel_rfl) rfl
instance el13 : El Tryd.prog 13 2 24 := .mk' (z := .agg #[Value.string ⟨#[]⟩, Value.int .u64 0]) (by kernel_rfl) rfl
instance fl13_0 : Fld Tryd.prog 13 0 0 9 := .mk' (by kernel_rfl) (by kernel_rfl)
instance fl13_1 : Fld Tryd.prog 13 1 1 12 := .mk' (by kernel_rfl) (by kernel_rfl)
instance su13 : St Tryd.prog 13 [(0, 1), (1, 1)] := ⟨by kernel_rfl⟩
instance el14 : El Tryd.prog 14 2 24 := .mk' (z := .agg #[Value.string ⟨#[]⟩, Value.int .u64 0]) (by kernel_rfl) rfl
instance fl14_0 : Fld Tryd.prog 14 0 0 9 := .mk' (by kernel_rfl) (by kernel_rfl)
instance fl14_1 : Fld Tryd.prog 14 1 1 12 := .mk' (by kernel_rfl) (by kernel_rfl)
instance su14 : St Tryd.prog 14 [(0, 1), (1, 1)] := ⟨by kernel_rfl⟩
instance el15 : El Tryd.prog 15 1 8 := .mk' (z := Value.pointer none) (by kernel_rfl) rfl
instance el16 : El Tryd.prog 16 1 8 := .mk' (z := Value.pointer none) (by kernel_rfl) rfl
instance el17 : El Tryd.prog 17 1 8 := .mk' (z := Value.pointer none) (by kernel_rfl) rfl
instance el18 : El Tryd.prog 18 1 8 := .mk' (z := .agg #[Value.pointer none]) (by kernel_rfl) rfl
instance fl18_0 : Fld Tryd.prog 18 0 0 17 := .mk' (by kernel_rfl) (by kernel_rfl)
instance su18 : St Tryd.prog 18 [(0, 1)] := ⟨by kernel_rfl⟩
instance el19 : El Tryd.prog 19 1 8 := .mk' (z := .agg #[Value.pointer none]) (by kernel_rfl) rfl
instance fl19_0 : Fld Tryd.prog 19 0 0 17 := .mk' (by kernel_rfl) (by kernel_rfl)
instance su19 : St Tryd.prog 19 [(0, 1)] := ⟨by kernel_rfl⟩
instance el20 : El Tryd.prog 20 1 16 := .mk' (z := Value.nilIface) (by kernel_rfl) rfl
instance it21 : IntTy Tryd.prog 21 .i32 := ⟨by kernel_rfl⟩
instance el21 : El Tryd.prog 21 1 4 := .mk' (z := Value.int .i32 0) (by kernel_rfl) rfl
instance el22 : El Tryd.prog 22 1 24 := .mk' (z := Value.slice none 0 0) (by kernel_rfl) rfl
instance sl22 : Sl Tryd.prog 22 29 := ⟨by kernel_rfl⟩
instance el23 : El Tryd.prog 23 1 8 := .mk' (z := Value.nilFunc) (by kernel_rfl) rfl
instance el24 : El Tryd.prog 24 1 24 := .mk' (z := Value.slice none 0 0) (by kernel_rfl) rfl
instance sl24 : Sl Tryd.prog 24 60 := ⟨by kernel_rfl⟩
instance el25 : El Tryd.prog 25 3 40 := .mk' (z := .agg #[Value.int .i64 0, Value.int .i64 0, Value.slice none 0 0]) (by kernel_rfl) rfl
instance fl25_0 : Fld Tryd.prog 25 0 0 3 := .mk' (by kernel_rfl) (by kernel_rfl)
instance fl25_1 : Fld Tryd.prog 25 1 1 2 := .mk' (by kernel_rfl) (by kernel_rfl)
instance fl25_2 : Fld Tryd.prog 25 2 2 24 := .mk' (by kernel_rfl) (by kernel_rfl)
instance su25 : St Tryd.prog 25 [(0, 1), (1, 1), (2, 1)] := ⟨by kernel_rfl⟩
instance el26 : El Tryd.prog 26 3 40 := .mk' (z := .agg #[Value.int .i64 0, Value.int .i64 0, Value.slice none 0 0]) (by kernel_rfl) rfl
instance fl26_0 : Fld Tryd.prog 26 0 0 3 := .mk' (by kernel_rfl) (by kernel_rfl)
instance fl26_1 : Fld Tryd.prog 26 1 1 2 := .mk' (by kernel_rfl) (by kernel_rfl)
instance fl26_2 : Fld Tryd.prog 26 2 2 24 := .mk' (by kernel_rfl) (by kernel_rfl)
instance su26 : St Tryd.prog 26 [(0, 1), (1, 1), (2, 1)] := ⟨by kernel_rfl⟩
instance it27 : IntTy Tryd.prog 27 .i64 := ⟨by kernel_rfl⟩
instance el27 : El Tryd.prog 27 1 8 := .mk' (z := Value.int .i64 0) (by kernel_rfl) rfl
instance el28 : El Tryd.prog 28 5 56 := .mk' (z := .agg #[Value.int .i64 0, Value.int .i64 0, Value.int .i64 0, Value.slice none 0 0, Value.int .i64 0]) (by kernel_rfl) rfl
instance fl28_0 : Fld Tryd.prog 28 0 0 2 := .mk' (by kernel_rfl) (by kernel_rfl)
instance fl28_1 : Fld Tryd.prog 28 1 1 26 := .mk' (by kernel_rfl) (by kernel_rfl)
instance fl28_2 : Fld Tryd.prog 28 2 4 27 := .mk' (by kernel_rfl) (by kernel_rfl)
instance su28 : St Tryd.prog 28 [(0, 1), (1, 3), (4, 1)] := ⟨by kernel_rfl⟩
instance el29 : El Tryd.prog 29 5 56 := .mk' (z := .agg #[Value.int .i64 0, Value.int .i64 0, Value.int .i64 0, Value.slice none 0 0, Value.int .i64 0]) (by kernel_rfl) rfl
instance fl29_0 : Fld Tryd.prog 29 0 0 2 := .mk' (by kernel_rfl) (by kernel_rfl)
instance fl29_1 : Fld Tryd.prog 29 1 1 26 := .mk' (by kernel_rfl) (by kernel_rfl)
instance fl29_2 : Fld Tryd.prog 29 2 4 27 := .mk' (by kernel_rfl) (by kernel_rfl)
instance su29 : St Tryd.prog 29 [(0, 1), (1, 3), (4, 1)] := ⟨by kernel_rfl⟩
instance el30 : El Tryd.prog 30 1 24 := .mk' (z := Value.slice none 0 0) (by kernel_rfl) rfl
instance sl30 : Sl Tryd.prog 30 26 := ⟨by kernel_rfl⟩
instance el31 : El Tryd.prog 31 1 8 := .mk' (z := Value.nilFunc) (by kernel_rfl) rfl
instance el32 : El Tryd.prog 32 1 8 := .mk' (z := Value.pointer none) (by kernel_rfl) rfl
instance el33 : El Tryd.prog 33 1 8 := .mk' (z := Value.nilFunc) (by kernel_rfl) rfl
instance el34 : El Tryd.prog 34 1 8 := .mk' (z := Value.pointer none) (by kernel_rfl) rfl
instance el35 : El Tryd.prog 35 1 24 := .mk' (z := Value.slice none 0 0) (by kernel_rfl) rfl
instance sl35 : Sl Tryd.prog 35 116 := ⟨by kernel_rfl⟩
instance el36 : El Tryd.prog 36 1 24 := .mk' (z := .agg #[Value.slice none 0 0]) (by kernel_rfl) rfl
instance fl36_0 : Fld Tryd.prog 36 0 0 35 := .mk' (by kernel_rfl) (by kernel_rfl)
instance su36 : St Tryd.prog 36 [(0, 1)] := ⟨by kernel_rfl⟩
instance el37 : El Tryd.prog 37 1 24 := .mk' (z := .agg #[Value.slice none 0 0]) (by kernel_rfl) rfl
instance fl37_0 : Fld Tryd.prog 37 0 0 35 := .mk' (by kernel_rfl) (by kernel_rfl)
instance su37 : St Tryd.prog 37 [(0, 1)] := ⟨by kernel_rfl⟩
instance el38 : El Tryd.prog 38 6 48 := .mk' (z := .agg #[Value.int .i64 0, Value.int .i64 0, Value.int .i64 0, Value.int .i64 0, Value.int .i64 0, Value.int .i64 0]) (by kernel_rfl) rfl
instance el39 : El Tryd.prog 39 30 336 := .mk' (z := .agg #[Value.int .i64 0, Value.int .i64 0, Value.int .i64 0, Value.slice none 0 0, Value.int .i64 0, Value.int .i64 0, Value.int .i64 0, Value.int .i64 0, Value.slice none 0 0, Value.int .i64 0, Value.int .i64 0, Value.int .i64 0, Value.int .i64 0, Value.slice none 0 0, Value.int .i64 0, Value.int .i64 0, Value.int .i64 0, Value.int .i64 0, Value.slice none 0 0, Value.int .i64 0, Value.int .i64 0, Value.int .i64 0, Value.int .i64 0, Value.slice none 0 0, Value.int .i64 0, Value.int .i64 0, Value.int .i64 0, Value.int .i64 0, Value.slice none 0 0, Value.int .i64 0]) (by kernel_rfl) rfl
instance el40 : El Tryd.prog 40 38 416 := .mk' (z := .agg #[Value.int .i64 0, Value.slice none 0 0, Value.int .i64 0, Value.int .i64 0, Value.int .i64 0, Value.int .i64 0, Value.int .i64 0, Value.int .i64 0, Value.int .i64 0, Value.int .i64 0, Value.int .i64 0, Value.slice none 0 0, Value.int .i64 0, Value.int .i64 0, Value.int .i64 0, Value.int .i64 0, Value.slice none 0 0, Value.int .i64 0, Value.int .i64 0, Value.int .i64 0, Value.int .i64 0, Value.slice none 0 0, Value.int .i64 0, Value.int .i64 0, Value.int .i64 0, Value.int .i64 0, Value.slice none 0 0, Value.int .i64 0, Value.int .i64 0, Value.int .i64 0, Value.int .i64 0, Value.slice none 0 0, Value.int .i64 0, Value.int .i64 0, Value.int .i64 0, Value.int .i64 0, Value.slice none 0 0, Value.int .i64 0]) (by kernel_rfl) rfl
instance fl40_0 : Fld Tryd.prog 40 0 0 2 := .mk' (by kernel_rfl) (by kernel_rfl)
instance fl40_1 : Fld Tryd.prog 40 1 1 37 := .mk' (by kernel_rfl) (by kernel_rfl)
instance fl40_2 : Fld Tryd.prog 40 2 2 38 := .mk' (by kernel_rfl) (by kernel_rfl)
instance fl40_3 : Fld Tryd.prog 40 3 8 39 := .mk' (by kernel_rfl) (by kernel_rfl)
instance su40 : St Tryd.prog 40 [(0, 1), (1, 1), (2, 6), (8, 30)] := ⟨by kernel_rfl⟩
instance el41 : El Tryd.prog 41 38 416 := .mk' (z := .agg #[Value.int .i64 0, Value.slice none 0 0, Value.int .i64 0, Value.int .i64 0, Value.int .i64 0, Value.int .i64 0, Value.int .i64 0, Value.int .i64 0, Value.int .i64 0, Value.int .i64 0, Value.int .i64 0, Value.slice none 0 0, Value.int .i64 0, Value.int .i64 0, Value.int .i64 0, Value.int .i64 0, Value.slice none 0 0, Value.int .i64 0, Value.int .i64 0, Value.int .i64 0, Value.int .i64 0, Value.slice none 0 0, Value.int .i64 0, Value.int .i64 0, Value.int .i64 0, Value.int .i64 0, Value.slice none 0 0, Value.int .i64 0, Value.int .i64 0, Value.int .i64 0, Value.int .i64 0, Value.slice none 0 0, Value.int .i64 0, Value.int .i64 0, Value.int .i64 0, Value.int .i64 0, Value.slice none 0 0, Value.int .i64 0]) (by kernel_rfl) rfl
instance fl41_0 : Fld Tryd.prog 41 0 0 2 := .mk' (by kernel_rfl) (by kernel_rfl)
instance fl41_1 : Fld Tryd.prog 41 1 1 37 := .mk' (by kernel_rfl) (by kernel_rfl)
instance fl41_2 : Fld Tryd.prog 41 2 2 38 := .mk' (by kernel_rfl) (by kernel_rfl)
instance fl41_3 : Fld Tryd.prog 41 3 8 39 := .mk' (by kernel_rfl) (by kernel_rfl)
instance su41 : St Tryd.prog 41 [(0, 1), (1, 1), (2, 6), (8, 30)] := ⟨by kernel_rfl⟩
instance el42 : El Tryd.prog 42 39 440 := .mk' (z := .agg #[Value.int .i64 0, Value.slice none 0 0, Value.int .i64 0, Value.int .i64 0, Value.int .i64 0, Value.int .i64 0, Value.int .i64 0, Value.int .i64 0, Value.int .i64 0, Value.int .i64 0, Value.int .i64 0, Value.slice none 0 0, Value.int .i64 0, Value.int .i64 0, Value.int .i64 0, Value.int .i64 0, Value.slice none 0 0, Value.int .i64 0, Value.int .i64 0, Value.int .i64 0, Value.int .i64 0, Value.slice none 0 0, Value.int .i64 0, Value.int .i64 0, Value.int .i64 0, Value.int .i64 0, Value.slice none 0 0, Value.int .i64 0, Value.int .i64 0, Value.int .i64 0, Value.int .i64 0, Value.slice none 0 0, Value.int .i64 0, Value.int .i64 0, Value.int .i64 0, Value.int .i64 0, Value.slice none 0 0, Value.int .i64 0, Value.slice none 0 0]) (by kernel_rfl) rfl
instance fl42_0 : Fld Tryd.prog 42 0 0 41 := .mk' (by kernel_rfl) (by kernel_rfl)
instance fl42_1 : Fld Tryd.prog 42 1 38 22 := .mk' (by kernel_rfl) (by kernel_rfl)
instance su42 : St Tryd.prog 42 [(0, 38), (38, 1)] := ⟨by kernel_rfl⟩
instance el43 : El Tryd.prog 43 39 440 := .mk' (z := .agg #[Value.int .i64 0, Value.slice none 0 0, Value.int .i64 0, Value.int .i64 0, Value.int .i64 0, Value.int .i64 0, Value.int .i64 0, Value.int .i64 0, Value.int .i64 0, Value.int .i64 0, Value.int .i64 0, Value.slice none 0 0, Value.int .i64 0, Value.int .i64 0, Value.int .i64 0, Value.int .i64 0, Value.slice none 0 0, Value.int .i64 0, Value.int .i64 0, Value.int .i64 0, Value.int .i64 0, Value.slice none 0 0, Value.int .i64 0, Value.int .i64 0, Value.int .i64 0, Value.int .i64 0, Value.slice none 0 0, Value.int .i64 0, Value.int .i64 0, Value.int .i64 0, Value.int .i64 0, Value.slice none 0 0, Value.int .i64 0, Value.int .i64 0, Value.int .i64 0, Value.int .i64 0, Value.slice none 0 0, Value.int .i64 0, Value.slice none 0 0]) (by kernel_rfl) rfl
instance fl43_0 : Fld Tryd.prog 43 0 0 41 := .mk' (by kernel_rfl) (by kernel_rfl)
instance fl43_1 : Fld Tryd.prog 43 1 38 22 := .mk' (by kernel_rfl) (by kernel_rfl)
instance su43 : St Tryd.prog 43 [(0, 38), (38, 1)] := ⟨by kernel_rfl⟩
instance el45 : El Tryd.prog 45 1 8 := .mk' (z := Value.nilFunc) (by kernel_rfl) rfl
instance el46 : El Tryd.prog 46 1 8 := .mk' (z := Value.nilFunc) (by kernel_rfl) rfl
instance el47 : El Tryd.prog 47 1 8 := .mk' (z := Value.nilFunc) (by kernel_rfl) rfl
instance el48 : El Tryd.prog 48 1 8 := .mk' (z := Value.nilFunc) (by kernel_rfl) rfl
instance el49 : El Tryd.prog 49 1 8 := .mk' (z := Value.nilFunc) (by kernel_rfl) rfl
instance el50 : El Tryd.prog 50 1 24 := .mk' (z := Value.slice none 0 0) (by kernel_rfl) rfl
instance sl50 : Sl Tryd.prog 50 3 := ⟨by kernel_rfl⟩
instance el51 : El Tryd.prog 51 1 8 := .mk' (z := Value.nilFunc) (by kernel_rfl) rfl
instance el52 : El Tryd.prog 52 1 8 := .mk' (z := Value.nilFunc) (by kernel_rfl) rfl
instance el53 : El Tryd.prog 53 1 8 := .mk' (z := Value.nilFunc) (by kernel_rfl) rfl
instance el54 : El Tryd.prog 54 1 8 := .mk' (z := Value.pointer none) (by kernel_rfl) rfl
instance el55 : El Tryd.prog 55 1 8 := .mk' (z := Value.nilFunc) (by kernel_rfl) rfl
instance el56 : El Tryd.prog 56 1 8 := .mk' (z := Value.nilFunc) (by kernel_rfl) rfl
instance el57 : El Tryd.prog 57 3 32 := .mk' (z := .agg #[Value.int .i64 0, Value.int .i64 0, Value.string ⟨#[]⟩]) (by kernel_rfl) rfl
instance fl57_0 : Fld Tryd.prog 57 0 0 3 := .mk' (by kernel_rfl) (by kernel_rfl)
instance fl57_1 : Fld Tryd.prog 57 1 1 2 := .mk' (by kernel_rfl) (by kernel_rfl)
instance fl57_2 : Fld Tryd.prog 57 2 2 9 := .mk' (by kernel_rfl) (by kernel_rfl)
instance su57 : St Tryd.prog 57 [(0, 1), (1, 1), (2, 1)] := ⟨by kernel_rfl⟩
instance el58 : El Tryd.prog 58 3 32 := .mk' (z := .agg #[Value.int .i64 0, Value.int .i64 0, Value.string ⟨#[]⟩]) (by kernel_rfl) rfl
instance fl58_0 : Fld Tryd.prog 58 0 0 3 := .mk' (by kernel_rfl) (by kernel_rfl)
instance fl58_1 : Fld Tryd.prog 58 1 1 2 := .mk' (by kernel_rfl) (by kernel_rfl)
instance fl58_2 : Fld Tryd.prog 58 2 2 9 := .mk' (by kernel_rfl) (by kernel_rfl)
instance su58 : St Tryd.prog 58 [(0, 1), (1, 1), (2, 1)] := ⟨by kernel_rfl⟩
instance el59 : El Tryd.prog 59 9 96 := .mk' (z := .agg #[Value.int .i64 0, Value.string ⟨#[]⟩, Value.int .i64 0, Value.int .i64 0, Value.string ⟨#[]⟩, Value.int .i64 0, Value.int .i64 0, Value.string ⟨#[]⟩, Value.int .i64 0]) (by kernel_rfl) rfl
instance fl59_0 : Fld Tryd.prog 59 0 0 3 := .mk' (by kernel_rfl) (by kernel_rfl)
instance fl59_1 : Fld Tryd.prog 59 1 1 9 := .mk' (by kernel_rfl) (by kernel_rfl)
instance fl59_2 : Fld Tryd.prog 59 2 2 58 := .mk' (by kernel_rfl) (by kernel_rfl)
instance fl59_3 : Fld Tryd.prog 59 3 5 58 := .mk' (by kernel_rfl) (by kernel_rfl)
instance fl59_4 : Fld Tryd.prog 59 4 8 2 := .mk' (by kernel_rfl) (by kernel_rfl)
instance su59 : St Tryd.prog 59 [(0, 1), (1, 1), (2, 3), (5, 3), (8, 1)] := ⟨by kernel_rfl⟩
instance el60 : El Tryd.prog 60 9 96 := .mk' (z := .agg #[Value.int .i64 0, Value.string ⟨#[]⟩, Value.int .i64 0, Value.int .i64 0, Value.string ⟨#[]⟩, Value.int .i64 0, Value.int .i64 0, Value.string ⟨#[]⟩, Value.int .i64 0]) (by kernel_rfl) rfl
instance fl60_0 : Fld Tryd.prog 60 0 0 3 := .mk' (by kernel_rfl) (by kernel_rfl)
instance fl60_1 : Fld Tryd.prog 60 1 1 9 := .mk' (by kernel_rfl) (by kernel_rfl)
instance fl60_2 : Fld Tryd.prog 60 2 2 58 := .mk' (by kernel_rfl) (by kernel_rfl)
instance fl60_3 : Fld Tryd.prog 60 3 5 58 := .mk' (by kernel_rfl) (by kernel_rfl)
instance fl60_4 : Fld Tryd.prog 60 4 8 2 := .mk' (by kernel_rfl) (by kernel_rfl)
instance su60 : St Tryd.prog 60 [(0, 1), (1, 1), (2, 3), (5, 3), (8, 1)] := ⟨by kernel_rfl⟩
instance el61 : El Tryd.prog 61 1 8 := .mk' (z := Value.nilFunc) (by kernel_rfl) rfl
instance el62 : El Tryd.prog 62 2 32 := .mk' (z := .agg #[Value.pointer none, Value.slice none 0 0]) (by kernel_rfl) rfl
instance fl62_0 : Fld Tryd.prog 62 0 0 54 := .mk' (by kernel_rfl) (by kernel_rfl)
instance fl62_1 : Fld Tryd.prog 62 1 1 22 := .mk' (by kernel_rfl) (by kernel_rfl)
instance su62 : St Tryd.prog 62 [(0, 1), (1, 1)] := ⟨by kernel_rfl⟩
instance el63 : El Tryd.prog 63 2 32 := .mk' (z := .agg #[Value.pointer none, Value.slice none 0 0]) (by kernel_rfl) rfl
instance fl63_0 : Fld Tryd.prog 63 0 0 54 := .mk' (by kernel_rfl) (by kernel_rfl)
instance fl63_1 : Fld Tryd.prog 63 1 1 22 := .mk' (by kernel_rfl) (by kernel_rfl)
instance su63 : St Tryd.prog 63 [(0, 1), (1, 1)] := ⟨by kernel_rfl⟩
instance el65 : El Tryd.prog 65 1 8 := .mk' (z := Value.nilFunc) (by kernel_rfl) rfl
instance el66 : El Tryd.prog 66 1 8 := .mk' (z := Value.nilFunc) (by kernel_rfl) rfl
instance el68 : El Tryd.prog 68 1 8 := .mk' (z := Value.nilFunc) (by kernel_rfl) rfl
instance el69 : El Tryd.prog 69 1 8 := .mk' (z := Value.nilFunc) (by kernel_rfl) rfl
instance el71 : El Tryd.prog 71 1 8 := .mk' (z := Value.nilFunc) (by kernel_rfl) rfl
instance el72 : El Tryd.prog 72 1 8 := .mk' (z := Value.pointer none) (by kernel_rfl) rfl
instance el73 : El Tryd.prog 73 6 64 := .mk' (z := .agg #[Value.int .i64 0, Value.int .i64 0, Value.int .i64 0, Value.int .i64 0, Value.slice none 0 0, Value.int .i64 0]) (by kernel_rfl) rfl
instance fl73_0 : Fld Tryd.prog 73 0 0 2 := .mk' (by kernel_rfl) (by kernel_rfl)
instance fl73_1 : Fld Tryd.prog 73 1 1 29 := .mk' (by kernel_rfl) (by kernel_rfl)
instance su73 : St Tryd.prog 73 [(0, 1), (1, 5)] := ⟨by kernel_rfl⟩
instance el74 : El Tryd.prog 74 6 64 := .mk' (z := .agg #[Value.int .i64 0, Value.int .i64 0, Value.int .i64 0, Value.int .i64 0, Value.slice none 0 0, Value.int .i64 0]) (by kernel_rfl) rfl
instance fl74_0 : Fld Tryd.prog 74 0 0 2 := .mk' (by kernel_rfl) (by kernel_rfl)
instance fl74_1 : Fld Tryd.prog 74 1 1 29 := .mk' (by kernel_rfl) (by kernel_rfl)
instance su74 : St Tryd.prog 74 [(0, 1), (1, 5)] := ⟨by kernel_rfl⟩
instance el75 : El Tryd.prog 75 36 384 := .mk' (z := .agg #[Value.int .i64 0, Value.int .i64 0, Value.int .i64 0, Value.int .i64 0, Value.slice none 0 0, Value.int .i64 0, Value.int .i64 0, Value.int .i64 0, Value.int .i64 0, Value.int .i64 0, Value.slice none 0 0, Value.int .i64 0, Value.int .i64 0, Value.int .i64 0, Value.int .i64 0, Value.int .i64 0, Value.slice none 0 0, Value.int .i64 0, Value.int .i64 0, Value.int .i64 0, Value.int .i64 0, Value.int .i64 0, Value.slice none 0 0, Value.int .i64 0, Value.int .i64 0, Value.int .i64 0, Value.int .i64 0, Value.int .i64 0, Value.slice none 0 0, Value.int .i64 0, Value.int .i64 0, Value.int .i64 0, Value.int .i64 0, Value.int .i64 0, Value.slice none 0 0, Value.int .i64 0]) (by kernel_rfl) rfl
instance el76 : El Tryd.prog 76 38 400 := .mk' (z := .agg #[Value.int .i64 0, Value.pointer none, Value.int .i64 0, Value.int .i64 0, Value.int .i64 0, Value.int .i64 0, Value.slice none 0 0, Value.int .i64 0, Value.int .i64 0, Value.int .i64 0, Value.int .i64 0, Value.int .i64 0, Value.slice none 0 0, Value.int .i64 0, Value.int .i64 0, Value.int .i64 0, Value.int .i64 0, Value.int .i64 0, Value.slice none 0 0, Value.int .i64 0, Value.int .i64 0, Value.int .i64 0, Value.int .i64 0, Value.int .i64 0, Value.slice none 0 0, Value.int .i64 0, Value.int .i64 0, Value.int .i64 0, Value.int .i64 0, Value.int .i64 0, Value.slice none 0 0, Value.int .i64 0, Value.int .i64 0, Value.int .i64 0, Value.int .i64 0, Value.int .i64 0, Value.slice none 0 0, Value.int .i64 0]) (by kernel_rfl) rfl
instance fl76_0 : Fld Tryd.prog 76 0 0 2 := .mk' (by kernel_rfl) (by kernel_rfl)
instance fl76_1 : Fld Tryd.prog 76 1 1 72 := .mk' (by kernel_rfl) (by kernel_rfl)
instance fl76_2 : Fld Tryd.prog 76 2 2 75 := .mk' (by kernel_rfl) (by kernel_rfl)
instance su76 : St Tryd.prog 76 [(0, 1), (1, 1), (2, 36)] := ⟨by kernel_rfl⟩
instance el77 : El Tryd.prog 77 38 400 := .mk' (z := .agg #[Value.int .i64 0, Value.pointer none, Value.int .i64 0, Value.int .i64 0, Value.int .i64 0, Value.int .i64 0, Value.slice none 0 0, Value.int .i64 0, Value.int .i64 0, Value.int .i64 0, Value.int .i64 0, Value.int .i64 0, Value.slice none 0 0, Value.int .i64 0, Value.int .i64 0, Value.int .i64 0, Value.int .i64 0, Value.int .i64 0, Value.slice none 0 0, Value.int .i64 0, Value.int .i64 0, Value.int .i64 0, Value.int .i64 0, Value.int .i64 0, Value.slice none 0 0, Value.int .i64 0, Value.int .i64 0, Value.int .i64 0, Value.int .i64 0, Value.int .i64 0, Value.slice none 0 0, Value.int .i64 0, Value.int .i64 0, Value.int .i64 0, Value.int .i64 0, Value.int .i64 0, Value.slice none 0 0, Value.int .i64 0]) (by kernel_rfl) rfl
instance fl77_0 : Fld Tryd.prog 77 0 0 2 := .mk' (by kernel_rfl) (by kernel_rfl)
instance fl77_1 : Fld Tryd.prog 77 1 1 72 := .mk' (by kernel_rfl) (by kernel_rfl)
instance fl77_2 : Fld Tryd.prog 77 2 2 75 := .mk' (by kernel_rfl) (by kernel_rfl)
instance su77 : St Tryd.prog 77 [(0, 1), (1, 1), (2, 36)] := ⟨by kernel_rfl⟩
instance el78 : El Tryd.prog 78 1 8 := .mk' (z := Value.nilFunc) (by kernel_rfl) rfl
instance el79 : El Tryd.prog 79 1 8 := .mk' (z := Value.nilFunc) (by kernel_rfl) rfl
instance el81 : El Tryd.prog 81 1 8 := .mk' (z := Value.nilFunc) (by kernel_rfl) rfl
instance el82 : El Tryd.prog 82 1 8 := .mk' (z := Value.nilFunc) (by kernel_rfl) rfl
instance el83 : El Tryd.prog 83 1 8 := .mk' (z := Value.nilFunc) (by kernel_rfl) rfl
instance el85 : El Tryd.prog 85 1 8 := .mk' (z := Value.nilFunc) (by kernel_rfl) rfl
instance el86 : El Tryd.prog 86 1 8 := .mk' (z := Value.nilFunc) (by kernel_rfl) rfl
instance el87 : El Tryd.prog 87 1 8 := .mk' (z := Value.nilFunc) (by kernel_rfl) rfl
instance el88 : El Tryd.prog 88 1 8 := .mk' (z := Value.map none) (by kernel_rfl) rfl
instance el89 : El Tryd.prog 89 1 8 := .mk' (z := .agg #[Value.map none]) (by kernel_rfl) rfl
instance fl89_0 : Fld Tryd.prog 89 0 0 88 := .mk' (by kernel_rfl) (by kernel_rfl)
instance su89 : St Tryd.prog 89 [(0, 1)] := ⟨by kernel_rfl⟩
instance el90 : El Tryd.prog 90 1 8 := .mk' (z := .agg #[Value.map none]) (by kernel_rfl) rfl
instance fl90_0 : Fld Tryd.prog 90 0 0 88 := .mk' (by kernel_rfl) (by kernel_rfl)
instance su90 : St Tryd.prog 90 [(0, 1)] := ⟨by kernel_rfl⟩
instance el91 : El Tryd.prog 91 1 8 := .mk' (z := Value.nilFunc) (by kernel_rfl) rfl
instance el92 : El Tryd.prog 92 1 8 := .mk' (z := Value.nilFunc) (by kernel_rfl) rfl
instance el93 : El Tryd.prog 93 1 8 := .mk' (z := Value.nilFunc) (by kernel_rfl) rfl
instance el94 : El Tryd.prog 94 1 8 := .mk' (z := Value.nilFunc) (by kernel_rfl) rfl
instance el95 : El Tryd.prog 95 1 8 := .mk' (z := Value.nilFunc) (by kernel_rfl) rfl
instance el96 : El Tryd.prog 96 1 24 := .mk' (z := Value.slice none 0 0) (by kernel_rfl) rfl
instance sl96 : Sl Tryd.prog 96 5 := ⟨by kernel_rfl⟩
instance el97 : El Tryd.prog 97 1 8 := .mk' (z := Value.nilFunc) (by kernel_rfl) rfl
instance el98 : El Tryd.prog 98 1 8 := .mk' (z := Value.nilFunc) (by kernel_rfl) rfl
instance el100 : El Tryd.prog 100 1 8 := .mk' (z := Value.nilFunc) (by kernel_rfl) rfl
instance el101 : El Tryd.prog 101 1 8 := .mk' (z := Value.nilFunc) (by kernel_rfl) rfl
instance el102 : El Tryd.prog 102 1 8 := .mk' (z := Value.nilFunc) (by kernel_rfl) rfl
instance el103 : El Tryd.prog 103 1 8 := .mk' (z := Value.nilFunc) (by kernel_rfl) rfl
instance el104 : El Tryd.prog 104 1 16 := .mk' (z := Value.nilIface) (by kernel_rfl) rfl
instance el105 : El Tryd.prog 105 1 16 := .mk' (z := Value.nilIface) (by kernel_rfl) rfl
instance el106 : El Tryd.prog 106 1 16 := .mk' (z := .agg #[Value.nilIface]) (by kernel_rfl) rfl
instance fl106_0 : Fld Tryd.prog 106 0 0 105 := .mk' (by kernel_rfl) (by kernel_rfl)
instance su106 : St Tryd.prog 106 [(0, 1)] := ⟨by kernel_rfl⟩
instance el107 : El Tryd.prog 107 1 16 := .mk' (z := .agg #[Value.nilIface]) (by kernel_rfl) rfl
instance fl107_0 : Fld Tryd.prog 107 0 0 105 := .mk' (by kernel_rfl) (by kernel_rfl)
instance su107 : St Tryd.prog 107 [(0, 1)] := ⟨by kernel_rfl⟩
instance el108 : El Tryd.prog 108 1 8 := .mk' (z := Value.nilFunc) (by kernel_rfl) rfl
instance el109 : El Tryd.prog 109 1 8 := .mk' (z := Value.nilFunc) (by kernel_rfl) rfl
instance el110 : El Tryd.prog 110 1 8 := .mk' (z := Value.nilFunc) (by kernel_rfl) rfl
instance el111 : El Tryd.prog 111 1 8 := .mk' (z := Value.nilFunc) (by kernel_rfl) rfl
instance el112 : El Tryd.prog 112 1 8 := .mk' (z := Value.nilFunc) (by kernel_rfl) rfl
instance el113 : El Tryd.prog 113 1 8 := .mk' (z := Value.nilFunc) (by kernel_rfl) rfl
instance el114 : El Tryd.prog 114 1 8 := .mk' (z := Value.nilFunc) (by kernel_rfl) rfl
instance el115 : El Tryd.prog 115 4 48 := .mk' (z := .agg #[Value.string ⟨#[]⟩, Value.int .i64 0, Value.int .i64 0, Value.string ⟨#[]⟩]) (by kernel_rfl) rfl
instance fl115_0 : Fld Tryd.prog 115 0 0 9 := .mk' (by kernel_rfl) (by kernel_rfl)
instance fl115_1 : Fld Tryd.prog 115 1 1 58 := .mk' (by kernel_rfl) (by kernel_rfl)
instance su115 : St Tryd.prog 115 [(0, 1), (1, 3)] := ⟨by kernel_rfl⟩
instance el116 : El Tryd.prog 116 4 48 := .mk' (z := .agg #[Value.string ⟨#[]⟩, Value.int .i64 0, Value.int .i64 0, Value.string ⟨#[]⟩]) (by kernel_rfl) rfl
instance fl116_0 : Fld Tryd.prog 116 0 0 9 := .mk' (by kernel_rfl) (by kernel_rfl)
instance fl116_1 : Fld Tryd.prog 116 1 1 58 := .mk' (by kernel_rfl) (by kernel_rfl)
instance su116 : St Tryd.prog 116 [(0, 1), (1, 3)] := ⟨by kernel_rfl⟩
instance el117 : El Tryd.prog 117 1 8 := .mk' (z := Value.nilFunc) (by kernel_rfl) rfl
instance el118 : El Tryd.prog 118 1 24 := .mk' (z := Value.slice none 0 0) (by kernel_rfl) rfl
instance sl118 : Sl Tryd.prog 118 2 := ⟨by kernel_rfl⟩
instance el119 : El Tryd.prog 119 1 8 := .mk' (z := Value.nilFunc) (by kernel_rfl) rfl
instance el120 : El Tryd.prog 120 1 8 := .mk' (z := Value.nilFunc) (by kernel_rfl) rfl
instance el121 : El Tryd.prog 121 1 8 := .mk' (z := Value.nilFunc) (by kernel_rfl) rfl
instance el123 : El Tryd.prog 123 1 8 := .mk' (z := Value.nilFunc) (by kernel_rfl) rfl
instance el124 : El Tryd.prog 124 1 8 := .mk' (z := Value.nilFunc) (by kernel_rfl) rfl
instance el126 : El Tryd.prog 126 1 8 := .mk' (z := Value.nilFunc) (by kernel_rfl) rfl
instance el127 : El Tryd.prog 127 1 8 := .mk' (z := Value.nilFunc) (by kernel_rfl) rfl
instance el128 : El Tryd.prog 128 1 8 := .mk' (z := Value.nilFunc) (by kernel_rfl) rfl
instance it129 : IntTy Tryd.prog 129 .u64 := ⟨by kernel_rfl⟩
instance el129 : El Tryd.prog 129 1 8 := .mk' (z := Value.int .u64 0) (by kernel_rfl) rfl
instance el130 : El Tryd.prog 130 1 24 := .mk' (z := Value.slice none 0 0) (by kernel_rfl) rfl
instance sl130 : Sl Tryd.prog 130 21 := ⟨by kernel_rfl⟩
instance el132 : El Tryd.prog 132 1 8 := .mk' (z := Value.nilFunc) (by kernel_rfl) rfl
instance it133 : IntTy Tryd.prog 133 .u64 := ⟨by kernel_rfl⟩
instance el133 : El Tryd.prog 133 1 8 := .mk' (z := Value.int .u64 0) (by kernel_rfl) rfl
instance it134 : IntTy Tryd.prog 134 .i64 := ⟨by kernel_rfl⟩
instance el134 : El Tryd.prog 134 1 8 := .mk' (z := Value.int .i64 0) (by kernel_rfl) rfl
instance st135 : StrTy Tryd.prog 135 := ⟨by kernel_rfl⟩
instance el135 : El Tryd.prog 135 1 16 := .mk' (z := Value.string ⟨#[]⟩) (by kernel_rfl) rfl
instance el136 : El Tryd.prog 136 1 8 := .mk' (z := Value.nilFunc) (by kernel_rfl) rfl
instance el139 : El Tryd.prog 139 1 8 := .mk' (z := Value.nilFunc) (by kernel_rfl) rfl
instance el140 : El Tryd.prog 140 1 8 := .mk' (z := Value.nilFunc) (by kernel_rfl) rfl
instance el142 : El Tryd.prog 142 2 2 := .mk' (z := .agg #[Value.int .u8 0, Value.int .u8 0]) (by kernel_rfl) rfl
instance fl142_0 : Fld Tryd.prog 142 0 0 5 := .mk' (by kernel_rfl) (by kernel_rfl)
instance fl142_1 : Fld Tryd.prog 142 1 1 5 := .mk' (by kernel_rfl) (by kernel_rfl)
instance su142 : St Tryd.prog 142 [(0, 1), (1, 1)] := ⟨by kernel_rfl⟩
instance el143 : El Tryd.prog 143 2 2 := .mk' (z := .agg #[Value.int .u8 0, Value.int .u8 0]) (by kernel_rfl) rfl
instance fl143_0 : Fld Tryd.prog 143 0 0 5 := .mk' (by kernel_rfl) (by kernel_rfl)
instance fl143_1 : Fld Tryd.prog 143 1 1 5 := .mk' (by kernel_rfl) (by kernel_rfl)
instance su143 : St Tryd.prog 143 [(0, 1), (1, 1)] := ⟨by kernel_rfl⟩
instance el144 : El Tryd.prog 144 32 32 := .mk' (z := .agg #[Value.int .u8 0, Value.int .u8 0, Value.int .u8 0, Value.int .u8 0, Value.int .u8 0, Value.int .u8 0, Value.int .u8 0, Value.int .u8 0, Value.int .u8 0, Value.int .u8 0, Value.int .u8 0, Value.int .u8 0, Value.int .u8 0, Value.int .u8 0, Value.int .u8 0, Value.int .u8 0, Value.int .u8 0, Value.int .u8 0, Value.int .u8 0, Value.int .u8 0, Value.int .u8 0, Value.int .u8 0, Value.int .u8 0, Value.int .u8 0, Value.int .u8 0, Value.int .u8 0, Value.int .u8 0, Value.int .u8 0, Value.int .u8 0, Value.int .u8 0, Value.int .u8 0, Value.int .u8 0]) (by kernel_rfl) rfl
instance el145 : El Tryd.prog 145 1 8 := .mk' (z := Value.nilFunc) (by kernel_rfl) rfl
instance el146 : El Tryd.prog 146 4 40 := .mk' (z := .agg #[Value.pointer none, Value.pointer none, Value.pointer none, Value.string ⟨#[]⟩]) (by kernel_rfl) rfl
instance fl146_0 : Fld Tryd.prog 146 0 0 17 := .mk' (by kernel_rfl) (by kernel_rfl)
instance fl146_1 : Fld Tryd.prog 146 1 1 17 := .mk' (by kernel_rfl) (by kernel_rfl)
instance fl146_2 : Fld Tryd.prog 146 2 2 17 := .mk' (by kernel_rfl) (by kernel_rfl)
instance fl146_3 : Fld Tryd.prog 146 3 3 9 := .mk' (by kernel_rfl) (by kernel_rfl)
instance su146 : St Tryd.prog 146 [(0, 1), (1, 1), (2, 1), (3, 1)] := ⟨by kernel_rfl⟩
instance el147 : El Tryd.prog 147 4 40 := .mk' (z := .agg #[Value.pointer none, Value.pointer none, Value.pointer none, Value.string ⟨#[]⟩]) (by kernel_rfl) rfl
instance fl147_0 : Fld Tryd.prog 147 0 0 17 := .mk' (by kernel_rfl) (by kernel_rfl)
instance fl147_1 : Fld Tryd.prog 147 1 1 17 := .mk' (by kernel_rfl) (by kernel_rfl)
instance fl147_2 : Fld Tryd.prog 147 2 2 17 := .mk' (by kernel_rfl) (by kernel_rfl)
instance fl147_3 : Fld Tryd.prog 147 3 3 9 := .mk' (by kernel_rfl) (by kernel_rfl)
instance su147 : St Tryd.prog 147 [(0, 1), (1, 1), (2, 1), (3, 1)] := ⟨by kernel_rfl⟩
instance su149 : St Tryd.prog 149 [(0, 0)] := ⟨by kernel_rfl⟩
instance su150 : St Tryd.prog 150 [(0, 0)] := ⟨by kernel_rfl⟩
instance it151 : IntTy Tryd.prog 151 .u32 := ⟨by kernel_rfl⟩
instance el151 : El Tryd.prog 151 1 4 := .mk' (z := Value.int .u32 0) (by kernel_rfl) rfl
instance it152 : IntTy Tryd.prog 152 .u8 := ⟨by kernel_rfl⟩
instance el152 : El Tryd.prog 152 1 1 := .mk' (z := Value.int .u8 0) (by kernel_rfl) rfl
instance it153 : IntTy Tryd.prog 153 .u8 := ⟨by kernel_rfl⟩
instance el153 : El Tryd.prog 153 1 1 := .mk' (z := Value.int .u8 0) (by kernel_rfl) rfl
instance el154 : El Tryd.prog 154 1 8 := .mk' (z := Value.nilFunc) (by kernel_rfl) rfl
instance el155 : El Tryd.prog 155 1 8 := .mk' (z := Value.pointer none) (by kernel_rfl) rfl
instance it156 : IntTy Tryd.prog 156 .i32 := ⟨by kernel_rfl⟩
instance el156 : El Tryd.prog 156 1 4 := .mk' (z := Value.int .i32 0) (by kernel_rfl) rfl
instance it157 : IntTy Tryd.prog 157 .i32 := ⟨by kernel_rfl⟩
instance el157 : El Tryd.prog 157 1 4 := .mk' (z := Value.int .i32 0) (by kernel_rfl) rfl
instance el158 : El Tryd.prog 158 11 48 := .mk' (z := .agg #[Value.int .u64 0, Value.int .u64 0, Value.int .u32 0, Value.int .u8 0, Value.int .u8 0, Value.int .u8 0, Value.int .u8 0, Value.nilFunc, Value.pointer none, Value.int .i32 0, Value.int .i32 0]) (by kernel_rfl) rfl
instance fl158_0 : Fld Tryd.prog 158 0 0 12 := .mk' (by kernel_rfl) (by kernel_rfl)
instance fl158_1 : Fld Tryd.prog 158 1 1 12 := .mk' (by kernel_rfl) (by kernel_rfl)
instance fl158_2 : Fld Tryd.prog 158 2 2 151 := .mk' (by kernel_rfl) (by kernel_rfl)
instance fl158_3 : Fld Tryd.prog 158 3 3 152 := .mk' (by kernel_rfl) (by kernel_rfl)
instance fl158_4 : Fld Tryd.prog 158 4 4 5 := .mk' (by kernel_rfl) (by kernel_rfl)
instance fl158_5 : Fld Tryd.prog 158 5 5 5 := .mk' (by kernel_rfl) (by kernel_rfl)
instance fl158_6 : Fld Tryd.prog 158 6 6 153 := .mk' (by kernel_rfl) (by kernel_rfl)
instance fl158_7 : Fld Tryd.prog 158 7 7 154 := .mk' (by kernel_rfl) (by kernel_rfl)
instance fl158_8 : Fld Tryd.prog 158 8 8 155 := .mk' (by kernel_rfl) (by kernel_rfl)
instance fl158_9 : Fld Tryd.prog 158 9 9 156 := .mk' (by kernel_rfl) (by kernel_rfl)
instance fl158_10 : Fld Tryd.prog 158 10 10 157 := .mk' (by kernel_rfl) (by kernel_rfl)
instance su158 : St Tryd.prog 158 [(0, 1), (1, 1), (2, 1), (3, 1), (4, 1), (5, 1), (6, 1), (7, 1), (8, 1), (9, 1), (10, 1)] := ⟨by kernel_rfl⟩
instance el159 : El Tryd.prog 159 11 48 := .mk' (z := .agg #[Value.int .u64 0, Value.int .u64 0, Value.int .u32 0, Value.int .u8 0, Value.int .u8 0, Value.int .u8 0, Value.int .u8 0, Value.nilFunc, Value.pointer none, Value.int .i32 0, Value.int .i32 0]) (by kernel_rfl) rfl
instance fl159_0 : Fld Tryd.prog 159 0 0 12 := .mk' (by kernel_rfl) (by kernel_rfl)
instance fl159_1 : Fld Tryd.prog 159 1 1 12 := .mk' (by kernel_rfl) (by kernel_rfl)
instance fl159_2 : Fld Tryd.prog 159 2 2 151 := .mk' (by kernel_rfl) (by kernel_rfl)
instance fl159_3 : Fld Tryd.prog 159 3 3 152 := .mk' (by kernel_rfl) (by kernel_rfl)
instance fl159_4 : Fld Tryd.prog 159 4 4 5 := .mk' (by kernel_rfl) (by kernel_rfl)
instance fl159_5 : Fld Tryd.prog 159 5 5 5 := .mk' (by kernel_rfl) (by kernel_rfl)
instance fl159_6 : Fld Tryd.prog 159 6 6 153 := .mk' (by kernel_rfl) (by kernel_rfl)
instance fl159_7 : Fld Tryd.prog 159 7 7 154 := .mk' (by kernel_rfl) (by kernel_rfl)
instance fl159_8 : Fld Tryd.prog 159 8 8 155 := .mk' (by kernel_rfl) (by kernel_rfl)
instance fl159_9 : Fld Tryd.prog 159 9 9 156 := .mk' (by kernel_rfl) (by kernel_rfl)
instance fl159_10 : Fld Tryd.prog 159 10 10 157 := .mk' (by kernel_rfl) (by kernel_rfl)
instance su159 : St Tryd.prog 159 [(0, 1), (1, 1), (2, 1), (3, 1), (4, 1), (5, 1), (6, 1), (7, 1), (8, 1), (9, 1), (10, 1)] := ⟨by kernel_rfl⟩
instance el160 : El Tryd.prog 160 1 8 := .mk' (z := Value.nilFunc) (by kernel_rfl) rfl
instance el161 : El Tryd.prog 161 1 8 := .mk' (z := Value.pointer none) (by kernel_rfl) rfl
end Go.Proofs.YtajidlglbkopjaaDoor

/-
  The walk of the reference's May, by Sx.
-/
set_option linter.unusedVariables false
set_option maxRecDepth 10000
namespace Go.Proofs.YtajidlglbkopjaaDoor.Sw
open Go.RowKit Go.Sx

theorem empty_eq (s : ByteArray) (h : s.size = 0) : (s.toList == (⟨#[]⟩ : ByteArray).toList) = true := by
  have : s = ⟨#[]⟩ := by
    apply ByteArray.ext
    exact Array.eq_empty_of_size_eq_zero h
  rw [this]; simp
theorem toList_size (s : ByteArray) : s.toList.length = s.size := by
  rw [Go.ByteArray.toList_eq]
  rw [Array.length_toList]; rfl
theorem empty_ne (s : ByteArray) (h : s.size ≠ 0) : (s.toList == (⟨#[]⟩ : ByteArray).toList) = false := by
  rw [beq_eq_false_iff_ne]
  intro e
  have := congrArg List.length e
  rw [toList_size, toList_size] at this
  exact h this
theorem ofRaw_01 (k n : Int) (s : ByteArray) : (ofRaw k n s).2 = 0 ∨ (ofRaw k n s).2 = 1 := by
  unfold ofRaw
  split
  · exact .inl rfl
  · split
    · exact .inl rfl
    · split
      · exact .inl rfl
      · exact .inr rfl

set_option maxHeartbeats 4000000 in
theorem ref_May (k n : Int) (s : ByteArray) (w : World) (hs0 : s.size ≤ 1000000) :
    Calls Tryd.prog 59 ⟨[.agg #[.int .i64 k, .int .i64 n, .string s]]⟩ w fun e w' => e = .returned (.bool ((ofRaw k n s).2 == 0)) ∧ Below w.heap.size w w' := by
  have hw := Has.start (G := 0) (w := w) (Nat.zero_le _)
  refine enter Tryd.func59 Tryd.ntmps59 rfl rfl fun a hs => ?_
  repeat (first | (refine sxv hs hw ?_; clear hs; intro a hs) | refine sxc hs ?_ | (refine sxa hs hw ?_; clear hs hw; intro a b W hw hs) | (refine sxs hs hw ?_; clear hs hw; intro W hs hw))
  by_cases k0 : k = 0
  · subst k0
    by_cases n0 : n = 0
    · subst n0
      by_cases hz : s.size = 0
      · have e1 := empty_eq s hz
        have hO : ((ofRaw 0 0 s).2 == 0) = true := by unfold ofRaw; rw [if_pos ⟨rfl, rfl, hz⟩]; rfl
        repeat (first | (refine sxv hs hw ?_; clear hs; intro a hs) | refine sxc hs ?_ | (refine sxa hs hw ?_; clear hs hw; intro a b W hw hs) | (refine sxs hs hw ?_; clear hs hw; intro W hs hw))
        rw [e1] at hs
        repeat (first | (refine sxv hs hw ?_; clear hs; intro a hs) | refine sxc hs ?_ | (refine sxa hs hw ?_; clear hs hw; intro a b W hw hs) | (refine sxs hs hw ?_; clear hs hw; intro W hs hw))
        exact rt1 hs rfl rfl ⟨by rw [hO]; rfl, hw.end (by repeat (first | exact In.hd | apply In.tl))⟩
      · have e1 := empty_ne s hz
        have hO : ((ofRaw 0 0 s).2 == 0) = false := by unfold ofRaw; rw [if_neg (fun h => hz h.2.2), if_neg (fun h => by omega), if_neg (fun h => by omega)]; rfl
        repeat (first | (refine sxv hs hw ?_; clear hs; intro a hs) | refine sxc hs ?_ | (refine sxa hs hw ?_; clear hs hw; intro a b W hw hs) | (refine sxs hs hw ?_; clear hs hw; intro W hs hw))
        rw [e1] at hs
        repeat (first | (refine sxv hs hw ?_; clear hs; intro a hs) | refine sxc hs ?_ | (refine sxa hs hw ?_; clear hs hw; intro a b W hw hs) | (refine sxs hs hw ?_; clear hs hw; intro W hs hw))
        exact rt1 hs rfl rfl ⟨by rw [hO]; rfl, hw.end (by repeat (first | exact In.hd | apply In.tl))⟩
    · have e1 : (n == 0) = false := by simpa using n0
      have hO : ((ofRaw 0 n s).2 == 0) = false := by unfold ofRaw; rw [if_neg (fun h => n0 h.2.1), if_neg (fun h => by omega), if_neg (fun h => by omega)]; rfl
      repeat (first | (refine sxv hs hw ?_; clear hs; intro a hs) | refine sxc hs ?_ | (refine sxa hs hw ?_; clear hs hw; intro a b W hw hs) | (refine sxs hs hw ?_; clear hs hw; intro W hs hw))
      rw [e1] at hs
      repeat (first | (refine sxv hs hw ?_; clear hs; intro a hs) | refine sxc hs ?_ | (refine sxa hs hw ?_; clear hs hw; intro a b W hw hs) | (refine sxs hs hw ?_; clear hs hw; intro W hs hw))
      exact rt1 hs rfl rfl ⟨by rw [hO]; rfl, hw.end (by repeat (first | exact In.hd | apply In.tl))⟩
  by_cases k1 : k = 1
  · subst k1
    by_cases hz : s.size = 0
    · have e1 := empty_eq s hz
      have hO : ((ofRaw 1 n s).2 == 0) = true := by unfold ofRaw; rw [if_neg (fun h => by omega), if_pos ⟨rfl, hz⟩]; rfl
      repeat (first | (refine sxv hs hw ?_; clear hs; intro a hs) | refine sxc hs ?_ | (refine sxa hs hw ?_; clear hs hw; intro a b W hw hs) | (refine sxs hs hw ?_; clear hs hw; intro W hs hw))
      exact rt1 hs rfl rfl ⟨by rw [hO, e1], hw.end (by repeat (first | exact In.hd | apply In.tl))⟩
    · have e1 := empty_ne s hz
      have hO : ((ofRaw 1 n s).2 == 0) = false := by unfold ofRaw; rw [if_neg (fun h => by omega), if_neg (fun h => hz h.2), if_neg (fun h => by omega)]; rfl
      repeat (first | (refine sxv hs hw ?_; clear hs; intro a hs) | refine sxc hs ?_ | (refine sxa hs hw ?_; clear hs hw; intro a b W hw hs) | (refine sxs hs hw ?_; clear hs hw; intro W hs hw))
      exact rt1 hs rfl rfl ⟨by rw [hO, e1], hw.end (by repeat (first | exact In.hd | apply In.tl))⟩
  have e0 : (k == 0) = false := by simpa using k0
  have e1 : (k == 1) = false := by simpa using k1
  rw [e0] at hs
  repeat (first | (refine sxv hs hw ?_; clear hs; intro a hs) | refine sxc hs ?_ | (refine sxa hs hw ?_; clear hs hw; intro a b W hw hs) | (refine sxs hs hw ?_; clear hs hw; intro W hs hw))
  rw [e1] at hs
  by_cases k2 : k = 2
  · subst k2
    repeat (first | (refine sxv hs hw ?_; clear hs; intro a hs) | refine sxc hs ?_ | (refine sxa hs hw ?_; clear hs hw; intro a b W hw hs) | (refine sxs hs hw ?_; clear hs hw; intro W hs hw))
    refine st_call hs (hc := ref_Runes s _ hs0) (k := ?_); rintro _ W1 ⟨vl, va, rfl, _, _, hb⟩; refine ⟨_, rfl, ?_⟩; clear hs; intro a hs; replace hw := hw.below hb; clear hb
    repeat (first | (refine sxv hs hw ?_; clear hs; intro a hs) | refine sxc hs ?_ | (refine sxa hs hw ?_; clear hs hw; intro a b W hw hs) | (refine sxs hs hw ?_; clear hs hw; intro W hs hw))
    by_cases n0 : n = 0
    · subst n0
      cases hv : Lib.validD s.data.toList with
      | false =>
        have hO : ((ofRaw 2 0 s).2 == 0) = false := by unfold ofRaw; rw [if_neg (fun h => by omega), if_neg (fun h => by omega), if_neg (fun h => by rw [hv] at h; cases h.2.2.2)]; rfl
        rw [hv] at hs
        repeat (first | (refine sxv hs hw ?_; clear hs; intro a hs) | refine sxc hs ?_ | (refine sxa hs hw ?_; clear hs hw; intro a b W hw hs) | (refine sxs hs hw ?_; clear hs hw; intro W hs hw))
        exact rt1 hs rfl rfl ⟨by rw [hO]; rfl, hw.end (by repeat (first | exact In.hd | apply In.tl))⟩
      | true =>
        rw [hv] at hs
        repeat (first | (refine sxv hs hw ?_; clear hs; intro a hs) | refine sxc hs ?_ | (refine sxa hs hw ?_; clear hs hw; intro a b W hw hs) | (refine sxs hs hw ?_; clear hs hw; intro W hs hw))
        by_cases hl : s.size ≤ 200
        · have e3 : decide ((s.size : Int) ≤ 200) = true := by simp; omega
          have hO : ((ofRaw 2 0 s).2 == 0) = true := by unfold ofRaw; rw [if_neg (fun h => by omega), if_neg (fun h => by omega), if_pos ⟨rfl, rfl, hl, hv⟩]; rfl
          rw [e3] at hs
          exact rt1 hs rfl rfl ⟨by rw [hO]; rfl, hw.end (by repeat (first | exact In.hd | apply In.tl))⟩
        · have e3 : decide ((s.size : Int) ≤ 200) = false := by simp; omega
          have hO : ((ofRaw 2 0 s).2 == 0) = false := by unfold ofRaw; rw [if_neg (fun h => by omega), if_neg (fun h => by omega), if_neg (fun h => hl h.2.2.1)]; rfl
          rw [e3] at hs
          exact rt1 hs rfl rfl ⟨by rw [hO]; rfl, hw.end (by repeat (first | exact In.hd | apply In.tl))⟩
    · have e3 : (n == 0) = false := by simpa using n0
      have hO : ((ofRaw 2 n s).2 == 0) = false := by unfold ofRaw; rw [if_neg (fun h => by omega), if_neg (fun h => by omega), if_neg (fun h => n0 h.2.1)]; rfl
      rw [e3] at hs
      repeat (first | (refine sxv hs hw ?_; clear hs; intro a hs) | refine sxc hs ?_ | (refine sxa hs hw ?_; clear hs hw; intro a b W hw hs) | (refine sxs hs hw ?_; clear hs hw; intro W hs hw))
      exact rt1 hs rfl rfl ⟨by rw [hO]; rfl, hw.end (by repeat (first | exact In.hd | apply In.tl))⟩
  · have e2 : (k == 2) = false := by simpa using k2
    have hO : ((ofRaw k n s).2 == 0) = false := by unfold ofRaw; rw [if_neg (fun h => k0 h.1), if_neg (fun h => k1 h.1), if_neg (fun h => k2 h.1)]; rfl
    repeat (first | (refine sxv hs hw ?_; clear hs; intro a hs) | refine sxc hs ?_ | (refine sxa hs hw ?_; clear hs hw; intro a b W hw hs) | (refine sxs hs hw ?_; clear hs hw; intro W hs hw))
    rw [e2] at hs
    repeat (first | (refine sxv hs hw ?_; clear hs; intro a hs) | refine sxc hs ?_ | (refine sxa hs hw ?_; clear hs hw; intro a b W hw hs) | (refine sxs hs hw ?_; clear hs hw; intro W hs hw))
    exact rt1 hs rfl rfl ⟨by rw [hO], hw.end (by repeat (first | exact In.hd | apply In.tl))⟩

end Go.Proofs.YtajidlglbkopjaaDoor.Sw

/-
  The walk of runes.Key, for a seat that lacks its neighbours.
-/
set_option linter.unusedVariables false
set_option maxRecDepth 10000
namespace Go.Proofs.YtajidlglbkopjaaDoor
open Go.RowKit

set_option maxHeartbeats 400000 in
theorem runes_Key (s : ByteArray) (w : World) (hs : s.size ≤ 9223372036854775807) (hT : Tabs w) :
    Calls Tryd.prog 61 #[.string s] w fun e w' => e = .returned (.bool (Ph.keyB s.data.toList)) ∧ Below w.heap.size w w' := by
  have hcl := Ph.count_le s
  go_enter Tryd.func61, Tryd.ntmps61
  go_wp2
  go_loopw [3] (fun n wr => ∃ pos k : Nat, wr = w.iter s pos ∧ n = .int .i64 k ∧ k ≤ s.size ∧ Hid (k + (Ph.rs (s.data.toList.drop pos)).length = Ph.count s.data.toList) ∧ Hid (Ph.plainB (Ph.rs s.data.toList) = Ph.plainB (Ph.rs (s.data.toList.drop pos)))) (fun _ wr => s.size - wr.iterPos w.heap.size)
  case atStart => exact ⟨0, 0, rfl, rfl, by omega, by unfold Hid; simp [Ph.count], by unfold Hid; simp⟩
  case round =>
    obtain ⟨pos, k, rfl, rfl, hkb, HK, HP⟩ := hrel
    by_cases hp : pos < s.size
    · have hnx := fun ty => run_next_any (P := Tryd.prog) w s pos ty hp
      have HR : Hid (Ph.rs (s.data.toList.drop pos) = Utf8.decode s pos :: Ph.rs (s.data.toList.drop (pos + (Utf8.decode s pos).2))) := Ph.rs_at s pos hp
      have hk1 : k + 1 ≤ s.size := by
        have h1 := HK.out
        rw [HR.out, List.length_cons] at h1
        omega
      have bad : (Utf8.decode s pos).1 < 32 ∨ (Utf8.decode s pos).1 = 127 → Ph.keyB s.data.toList = false := fun h => Ph.keyB_bad (by rw [HP.out, HR.out, Ph.plainB_bad h])
      have BAD := Lib.hid bad
      clear bad
      by_cases h32 : (Utf8.decode s pos).1 < 32
      · have h32' : ((Utf8.decode s pos).1 : Int) < 32 := by omega
        go_wp2
        go_ret
        exact ⟨ret_bool (BAD.out (.inl h32)).symm, (Below.refl _ _).alloc (Nat.le_refl _) _⟩
      · by_cases h127 : (Utf8.decode s pos).1 = 127
        · have h32' : (32 : Int) ≤ ((Utf8.decode s pos).1 : Int) := by omega
          have h127' : (((Utf8.decode s pos).1 : Int) == 127) = true := by rw [beq_iff_eq]; omega
          have HB : Hid (Ph.keyB s.data.toList = false) := BAD.out (.inr h127)
          clear h127
          go_wp2
          go_ret
          exact ⟨ret_bool HB.out.symm, (Below.refl _ _).alloc (Nat.le_refl _) _⟩
        · have h32' : (32 : Int) ≤ ((Utf8.decode s pos).1 : Int) := by omega
          have h127' : (((Utf8.decode s pos).1 : Int) == 127) = false := by rw [beq_eq_false_iff_ne]; omega
          have HG : Hid (¬ ((Utf8.decode s pos).1 < 32 ∨ (Utf8.decode s pos).1 = 127)) := by show ¬ _; omega
          clear h127
          go_wp2
          go_roundw
          case rel =>
            refine ⟨pos + (Utf8.decode s pos).2, k + 1, rfl, by go_num, hk1, ?_, ?_⟩
            · have h1 := HK.out
              rw [HR.out, List.length_cons] at h1
              show _ = _
              omega
            · show _ = _
              rw [HP.out, HR.out, Ph.plainB_good HG.out]
          case measure =>
            have := Ph.width_pos s pos
            rw [World.iterPos_iter, World.iterPos_iter]
            omega
    · have hnx := fun ty => run_next_end (P := Tryd.prog) w s pos ty hp
      have hT2 : Tabs (w.iter s pos) := hT.keep ((Below.refl _ _).alloc (Nat.le_refl _) _)
      have HK2 : Hid (k = Ph.count s.data.toList ∧ Ph.plainB (Ph.rs s.data.toList) = true) := by
        have h1 := HK.out
        have h2 := HP.out
        rw [Ph.rs_end s pos hp] at h1 h2
        exact ⟨h1, h2⟩
      by_cases h1 : 1 ≤ k ∧ k ≤ 40
      · obtain ⟨ha, hb'⟩ := h1
        have ha' : (1 : Int) ≤ (k : Int) := by omega
        have hb'' : (k : Int) ≤ 40 := by omega
        go_wp2_with (go_at_call 73; refine (runes_Valid _ _ hs hT2).mono ?_; rintro e w' ⟨rfl, hb⟩)
        go_ret
        refine ⟨ret_bool ?_, ((Below.refl _ _).alloc (Nat.le_refl _) (.stringIter s _)).trans (hb.mono (by simp [World.iter]))⟩
        rw [Ph.keyB_long HK2.out.2 (by rw [← HK2.out.1]; omega) (by rw [← HK2.out.1]; omega)]
      · have HS : Hid (Ph.keyB s.data.toList = false) := Ph.keyB_short (by rw [← HK2.out.1]; exact h1)
        by_cases ha : 1 ≤ k
        · have ha' : (1 : Int) ≤ (k : Int) := by omega
          have hb'' : (40 : Int) < (k : Int) := by omega
          clear h1
          go_wp2
          go_ret
          exact ⟨ret_bool HS.out.symm, (Below.refl _ _).alloc (Nat.le_refl _) _⟩
        · have ha' : (k : Int) < 1 := by omega
          clear h1
          go_wp2
          go_ret
          exact ⟨ret_bool HS.out.symm, (Below.refl _ _).alloc (Nat.le_refl _) _⟩

end Go.Proofs.YtajidlglbkopjaaDoor

/-
  The walk of the reference's Key, for a seat that lacks its neighbours.
-/
set_option linter.unusedVariables false
set_option maxRecDepth 10000
namespace Go.Proofs.YtajidlglbkopjaaDoor
open Go.RowKit

set_option maxHeartbeats 400000 in
theorem ref_Key (s : ByteArray) (w : World) (hs : s.size ≤ 1000000) :
    Calls Tryd.prog 58 #[.string s] w fun e w' => e = .returned (.bool (Ph.keyB s.data.toList)) ∧ Below w.heap.size w w' := by
  have hcl := Ph.count_le s
  have hcl' : (Ph.rs s.data.toList).length ≤ s.size := hcl
  by_cases h1 : (Ph.rs s.data.toList).length < 1 ∨ 40 < (Ph.rs s.data.toList).length ∨ Lib.validD s.data.toList = false
  · have HF : Hid (Ph.keyB s.data.toList = false) := by
      show _ = _
      rcases h1 with h | h | h
      · exact Ph.keyB_short (by unfold Ph.count; omega)
      · exact Ph.keyB_short (by unfold Ph.count; omega)
      · simp [Ph.keyB, h]
    have H1 := Lib.hid h1
    clear h1
    by_cases c1 : (Ph.rs s.data.toList).length < 1
    · have c1' : ((Ph.rs s.data.toList).length : Int) < 1 := by omega
      go_enter Tryd.func58, Tryd.ntmps58
      go_wp2_with fail
      refine (ref_Runes s _ hs).mono ?_
      rintro e w' ⟨vl, va, rfl, hl, ha, hb⟩
      obtain ⟨Al, cl, rfl, _, _, fl⟩ := own_slice hl
      go_wp2
      go_ret
      exact ⟨ret_bool HF.out.symm, hb⟩
    · have c1' : (1 : Int) ≤ ((Ph.rs s.data.toList).length : Int) := by omega
      by_cases c2 : 40 < (Ph.rs s.data.toList).length
      · have c2' : (40 : Int) < ((Ph.rs s.data.toList).length : Int) := by omega
        go_enter Tryd.func58, Tryd.ntmps58
        go_wp2_with fail
        refine (ref_Runes s _ hs).mono ?_
        rintro e w' ⟨vl, va, rfl, hl, ha, hb⟩
        obtain ⟨Al, cl, rfl, _, _, fl⟩ := own_slice hl
        go_wp2
        go_ret
        exact ⟨ret_bool HF.out.symm, hb⟩
      · have c2' : ((Ph.rs s.data.toList).length : Int) ≤ 40 := by omega
        have c3 : Lib.validD s.data.toList = false := by
          rcases H1.out with h | h | h
          · omega
          · omega
          · exact h
        go_enter Tryd.func58, Tryd.ntmps58
        go_wp2_with fail
        refine (ref_Runes s _ hs).mono ?_
        rintro e w' ⟨vl, va, rfl, hl, ha, hb⟩
        rw [c3]
        clear c3
        obtain ⟨Al, cl, rfl, _, _, fl⟩ := own_slice hl
        go_wp2
        go_ret
        exact ⟨ret_bool HF.out.symm, hb⟩
  · have c1' : (1 : Int) ≤ ((Ph.rs s.data.toList).length : Int) := by omega
    have c2' : ((Ph.rs s.data.toList).length : Int) ≤ 40 := by omega
    have c3 : Lib.validD s.data.toList = true := by
      cases h : Lib.validD s.data.toList
      · exact absurd (.inr (.inr h)) h1
      · rfl
    have HK : Hid (Ph.keyB s.data.toList = Ph.plainB (Ph.rs s.data.toList)) := by
      show _ = _
      cases hp : Ph.plainB (Ph.rs s.data.toList)
      · exact Ph.keyB_bad hp
      · rw [Ph.keyB_long hp (by unfold Ph.count; omega) (by unfold Ph.count; omega), c3]
    have hok := Ph.rs_small s.data.toList
    have HOK := Lib.hid hok
    clear h1 hok
    go_enter Tryd.func58, Tryd.ntmps58
    go_wp2_with fail
    refine (ref_Runes s _ hs).mono ?_
    rintro e w' ⟨vl, va, rfl, hl, ha, hb⟩
    rw [c3]
    clear c3
    obtain ⟨Al, cl, rfl, _, _, fl⟩ := own_slice hl
    obtain ⟨g, rfl, fc⟩ := fl (by omega)
    have FC := Lib.hid fc
    clear fc fl
    go_wp2
    go_loop [6] (fun i => ∃ k : Nat, k ≤ (Ph.rs s.data.toList).length ∧ i = .int .i64 k ∧ Hid (Ph.keyB s.data.toList = Ph.plainB ((Ph.rs s.data.toList).drop k))) (fun i => (Ph.rs s.data.toList).length - (intOf i).toNat)
    case atStart => exact ⟨0, by omega, rfl, by show _ = _; rw [HK.out]; rfl⟩
    case round =>
      obtain ⟨k, hk, rfl, HP⟩ := hrel
      by_cases hlt : k < (Ph.rs s.data.toList).length
      · have hlt' : (k : Int) < ((Ph.rs s.data.toList).length : Int) := by omega
        have hc := FC.out k (by omega)
        rw [Ph.runeVals_get _ k hlt] at hc
        have HD : Hid ((Ph.rs s.data.toList).drop k = (Ph.rs s.data.toList)[k] :: (Ph.rs s.data.toList).drop (k + 1)) := List.drop_eq_getElem_cons hlt
        have hr := HOK.out _ (List.getElem_mem hlt)
        generalize (Ph.rs s.data.toList)[k] = d at *
        by_cases h32 : d.1 < 32
        · have h32' : (d.1 : Int) < 32 := by omega
          have HB : Hid (Ph.keyB s.data.toList = false) := by show _ = _; rw [HP.out, HD.out, Ph.plainB_bad (.inl h32)]
          go_wp2
          go_ret
          exact ⟨ret_bool HB.out.symm, hb⟩
        · have h32' : (32 : Int) ≤ (d.1 : Int) := by omega
          by_cases h127 : d.1 = 127
          · have h127' : ((d.1 : Int) == 127) = true := by rw [beq_iff_eq]; omega
            have HB : Hid (Ph.keyB s.data.toList = false) := by show _ = _; rw [HP.out, HD.out, Ph.plainB_bad (.inr h127)]
            clear h127
            go_wp2
            go_ret
            exact ⟨ret_bool HB.out.symm, hb⟩
          · have h127' : ((d.1 : Int) == 127) = false := by rw [beq_eq_false_iff_ne]; omega
            have HG : Hid (Ph.keyB s.data.toList = Ph.plainB ((Ph.rs s.data.toList).drop (k + 1))) := by show _ = _; rw [HP.out, HD.out, Ph.plainB_good (by omega)]
            clear h127
            go_wp2
            go_round
            case rel => exact ⟨k + 1, by omega, by go_num, HG⟩
            case measure => simp [intOf]; omega
      · have hlt' : ((Ph.rs s.data.toList).length : Int) ≤ (k : Int) := by omega
        have HB : Hid (Ph.keyB s.data.toList = true) := by
          show _ = _
          rw [HP.out, List.drop_eq_nil_of_le (by omega)]; rfl
        go_wp2
        go_ret
        exact ⟨ret_bool HB.out.symm, hb⟩


end Go.Proofs.YtajidlglbkopjaaDoor
