/-
  Texts of the proof, one behind the other (part 7).
-/
import Derived.Test.YtmalklakaalaoaaDoorM6
import Derived.Deep.Slices
set_option linter.unusedVariables false
set_option maxRecDepth 10000
namespace Go.Proofs.YtmalklakaalaoaaDoor.Sw
open Go.RowKit Go.Sx
set_option maxHeartbeats 64000000 in
theorem fd_way0 {Q : Exit → Act → World → Prop} {a : Act} {w0 W : World} {H3 : Fh} {R : List Res} {bad0 pad dad : Option Addr} {nb bcap0 pcap dcap b4 p5 pd b11 b12 c : Nat} {place pl seq er err xc xq : Int} {xl : List OpD} {d : Dm} {sv4 : Value} {s4 : List UInt8 × Bool} {xs : List Value} {pls : List Int} (hpll : pls.length ≤ 1000) (k1 : (err != 0) = false) (k2 : (xc != (c : Int)) = false) (k3 : (xq != seq) = false) (k4 : decide (pl < 1) = false) (k5 : decide (pl > place) = false) (kf6 : fineE er = true) (k7 : decide (pl ∈ pls) = false)
    (hs : Slots a 129 [(0, .slice bad0 nb bcap0), (4, .pointer (some ⟨b4, 0, none⟩)), (5, .pointer (some ⟨p5, 0, none⟩)), (8, .slice pad pls.length pcap), (9, .int .i64 (c : Int)), (10, .int .i64 seq), (11, .pointer (some ⟨b11, 0, none⟩)), (12, .pointer (some ⟨b12, 0, none⟩)), (13, .int .i64 err)]) (hw : Has 0 w0 W (Cells b11 (rowCells ⟨pl, ⟨xc, xq, xl⟩, er⟩ (.slice dad xl.length dcap)) 32 :: Cells b12 (batCells ⟨xc, xq, xl⟩ (.slice dad xl.length dcap)) 29 :: Cells b4 [sv4, .bool s4.2] 66 :: Cells p5 (foldCells place pd xs) 61 :: DocAt pd d :: Sx.Own 2 1 (.slice pad pls.length pcap) pls.length (pls.map (Value.int .i64)) :: Fz H3 :: R))
    (hk : ∀ a W, Slots a 129 [(103, .bool false), (0, .slice bad0 nb bcap0), (4, .pointer (some ⟨b4, 0, none⟩)), (5, .pointer (some ⟨p5, 0, none⟩)), (8, .slice pad pls.length pcap), (9, .int .i64 (c : Int)), (10, .int .i64 seq), (11, .pointer (some ⟨b11, 0, none⟩))] → Has 0 w0 W (Cells b11 (rowCells ⟨pl, ⟨xc, xq, xl⟩, er⟩ (.slice dad xl.length dcap)) 32 :: Cells b12 (batCells ⟨xc, xq, xl⟩ (.slice dad xl.length dcap)) 29 :: Cells b4 [sv4, .bool s4.2] 66 :: Cells p5 (foldCells place pd xs) 61 :: DocAt pd d :: Sx.Own 2 1 (.slice pad pls.length pcap) pls.length (pls.map (Value.int .i64)) :: Fz H3 :: R) → Q .normal a W) : (Code.regionOf 16 Tryd.f11.body).wp Tryd.prog Q a W := by
  change Code.wp Tryd.prog (Code.region 16 _ true) Q a W
  refine rg_draw (V := [.int .i64 err, .bool false, .bool false, .pointer (some ⟨b12, 0 + 0, none⟩), .int .i64 xc, .int .i64 (c : Int), .bool false, .bool false, .bool false, .pointer (some ⟨b12, 0 + 1, none⟩), .int .i64 xq, .int .i64 seq, .bool false, .bool false, .bool false, .pointer (some ⟨b11, 0 + 0, none⟩), .int .i64 pl, .bool false, .bool false, .bool false, .pointer (some ⟨b11, 0 + 0, none⟩), .int .i64 pl, .pointer (some ⟨p5, 0, none⟩), .pointer (some ⟨p5, 0, none⟩), .pointer (some ⟨p5, 0 + 0, none⟩), .int .i64 place, .bool false, .bool false, .bool false, .pointer (some ⟨b11, 0 + 4, none⟩), .int .i64 er, .bool true, .bool false, .bool false, .bool false, .slice pad pls.length pcap, .pointer (some ⟨b11, 0 + 0, none⟩), .int .i64 pl, .bool false, .bool false])
    (Rs := fun D => Cells b11 (rowCells ⟨pl, ⟨xc, xq, xl⟩, er⟩ (.slice dad xl.length dcap)) 32 :: Cells b12 (batCells ⟨xc, xq, xl⟩ (.slice dad xl.length dcap)) 29 :: Cells b4 [sv4, .bool s4.2] 66 :: Cells p5 (foldCells place pd xs) 61 :: DocAt pd d :: Sx.Own 2 1 (.slice pad pls.length pcap) pls.length (pls.map (Value.int .i64)) :: Fz H3 :: R) hs hw (ho := ⟨?_, ?c1_0, ?_, ?_, ?_, ?_, ?c6_0, ?_, ?_, ?_, ?_, ?_, ?c12_0, ?_, ?_, ?_, ?_, ?c17_0, ?_, ?_, ?_, ?_, ?_, ?_, ?_, ?_, ?c26_0, ?_, ?_, ?_, ?_, ?c31_0, ?_, ?_, ?_, ?_, ?_, ?_, ?c38_0, ?_, trivial⟩) (k := ?k_0)
  case c1_0 =>
    intro LD D a W hcl hi hp hs hw
    repeat (first | (refine sxv hs hw ?_; clear hs; intro a hs) | refine sxc hs ?_ | (refine sxa hs hw ?_; clear hs hw; intro a b W hw hs) | (refine sxs hs hw ?_; clear hs hw; intro W hs hw) | ((with_reducible first | refine st_ptrSome hs (k := ?_) | refine st_ptrNone hs (k := ?_)); clear hs; intro a hs))
    rw [k1] at hs
    exact ⟨hs, hw⟩
  case c6_0 =>
    intro LD D a W hcl hi hp hs hw
    repeat (first | (refine sxv hs hw ?_; clear hs; intro a hs) | refine sxc hs ?_ | (refine sxa hs hw ?_; clear hs hw; intro a b W hw hs) | (refine sxs hs hw ?_; clear hs hw; intro W hs hw) | ((with_reducible first | refine st_ptrSome hs (k := ?_) | refine st_ptrNone hs (k := ?_)); clear hs; intro a hs))
    rw [k2] at hs
    exact ⟨hs, hw⟩
  case c12_0 =>
    intro LD D a W hcl hi hp hs hw
    repeat (first | (refine sxv hs hw ?_; clear hs; intro a hs) | refine sxc hs ?_ | (refine sxa hs hw ?_; clear hs hw; intro a b W hw hs) | (refine sxs hs hw ?_; clear hs hw; intro W hs hw) | ((with_reducible first | refine st_ptrSome hs (k := ?_) | refine st_ptrNone hs (k := ?_)); clear hs; intro a hs))
    rw [k3] at hs
    exact ⟨hs, hw⟩
  case c17_0 =>
    intro LD D a W hcl hi hp hs hw
    repeat (first | (refine sxv hs hw ?_; clear hs; intro a hs) | refine sxc hs ?_ | (refine sxa hs hw ?_; clear hs hw; intro a b W hw hs) | (refine sxs hs hw ?_; clear hs hw; intro W hs hw) | ((with_reducible first | refine st_ptrSome hs (k := ?_) | refine st_ptrNone hs (k := ?_)); clear hs; intro a hs))
    rw [k4] at hs
    exact ⟨hs, hw⟩
  case c26_0 =>
    intro LD D a W hcl hi hp hs hw
    repeat (first | (refine sxv hs hw ?_; clear hs; intro a hs) | refine sxc hs ?_ | (refine sxa hs hw ?_; clear hs hw; intro a b W hw hs) | (refine sxs hs hw ?_; clear hs hw; intro W hs hw) | ((with_reducible first | refine st_ptrSome hs (k := ?_) | refine st_ptrNone hs (k := ?_)); clear hs; intro a hs))
    rw [k5] at hs
    exact ⟨hs, hw⟩
  case c31_0 =>
    intro LD D a W hcl hi hp hs hw
    repeat (first | (refine sxv hs hw ?_; clear hs; intro a hs) | refine sxc hs ?_ | (refine sxa hs hw ?_; clear hs hw; intro a b W hw hs) | (refine sxs hs hw ?_; clear hs hw; intro W hs hw) | ((with_reducible first | refine st_ptrSome hs (k := ?_) | refine st_ptrNone hs (k := ?_)); clear hs; intro a hs))
    refine st_call hs (hc := fold_fine er _) (k := ?_); rintro e0 W1 ⟨rfl, hb⟩; refine ⟨_, rfl, ?_⟩; clear hs; intro a hs; replace hw := hw.below hb; clear hb
    rw [kf6] at hs
    repeat (first | (refine sxv hs hw ?_; clear hs; intro a hs) | refine sxc hs ?_ | (refine sxa hs hw ?_; clear hs hw; intro a b W hw hs) | (refine sxs hs hw ?_; clear hs hw; intro W hs hw) | ((with_reducible first | refine st_ptrSome hs (k := ?_) | refine st_ptrNone hs (k := ?_)); clear hs; intro a hs))
    exact ⟨hs, hw⟩
  case c38_0 =>
    intro LD D a W hcl hi hp hs hw
    repeat (first | (refine sxv hs hw ?_; clear hs; intro a hs) | refine sxc hs ?_ | (refine sxa hs hw ?_; clear hs hw; intro a b W hw hs) | (refine sxs hs hw ?_; clear hs hw; intro W hs hw) | ((with_reducible first | refine st_ptrSome hs (k := ?_) | refine st_ptrNone hs (k := ?_)); clear hs; intro a hs))
    refine st_call hs (hc := sl_Contains pls _ pl _ hpll (hw.rd_own (In.tl (In.tl (In.tl (In.tl (In.tl In.hd))))))) (k := ?_); rintro e0 W1 ⟨rfl, hb⟩; refine ⟨_, rfl, ?_⟩; clear hs; intro a hs; replace hw := hw.below hb; clear hb
    rw [k7] at hs
    repeat (first | (refine sxv hs hw ?_; clear hs; intro a hs) | refine sxc hs ?_ | (refine sxa hs hw ?_; clear hs hw; intro a b W hw hs) | (refine sxs hs hw ?_; clear hs hw; intro W hs hw) | ((with_reducible first | refine st_ptrSome hs (k := ?_) | refine st_ptrNone hs (k := ?_)); clear hs; intro a hs))
    exact ⟨hs, hw⟩
  case k_0 =>
    clear hs hw
    intro a W hs hw
    replace hw : Has 0 w0 W (Cells b11 (rowCells ⟨pl, ⟨xc, xq, xl⟩, er⟩ (.slice dad xl.length dcap)) 32 :: Cells b12 (batCells ⟨xc, xq, xl⟩ (.slice dad xl.length dcap)) 29 :: Cells b4 [sv4, .bool s4.2] 66 :: Cells p5 (foldCells place pd xs) 61 :: DocAt pd d :: Sx.Own 2 1 (.slice pad pls.length pcap) pls.length (pls.map (Value.int .i64)) :: Fz H3 :: R) := hw
    refine hk a W (hs.of ?_) hw
    exact ⟨rfl, rfl, rfl, rfl, rfl, rfl, rfl, rfl, trivial⟩
  all_goals
    intro LD D a W hcl hi hp hs hw
    repeat (first | (refine sxv hs hw ?_; clear hs; intro a hs) | refine sxc hs ?_ | (refine sxa hs hw ?_; clear hs hw; intro a b W hw hs) | (refine sxs hs hw ?_; clear hs hw; intro W hs hw) | ((with_reducible first | refine st_ptrSome hs (k := ?_) | refine st_ptrNone hs (k := ?_)); clear hs; intro a hs))
    exact ⟨hs, hw⟩
set_option maxHeartbeats 64000000 in
theorem fd_way7 {Q : Exit → Act → World → Prop} {a : Act} {w0 W : World} {H3 : Fh} {R : List Res} {bad0 pad dad : Option Addr} {nb bcap0 pcap dcap b4 p5 pd b11 b12 c : Nat} {place pl seq er err xc xq : Int} {xl : List OpD} {d : Dm} {sv4 : Value} {s4 : List UInt8 × Bool} {xs : List Value} {pls : List Int} (hpll : pls.length ≤ 1000) (k1 : (err != 0) = false) (k2 : (xc != (c : Int)) = false) (k3 : (xq != seq) = false) (k4 : decide (pl < 1) = false) (k5 : decide (pl > place) = false) (kf6 : fineE er = true) (k7 : decide (pl ∈ pls) = true)
    (hs : Slots a 129 [(0, .slice bad0 nb bcap0), (4, .pointer (some ⟨b4, 0, none⟩)), (5, .pointer (some ⟨p5, 0, none⟩)), (8, .slice pad pls.length pcap), (9, .int .i64 (c : Int)), (10, .int .i64 seq), (11, .pointer (some ⟨b11, 0, none⟩)), (12, .pointer (some ⟨b12, 0, none⟩)), (13, .int .i64 err)]) (hw : Has 0 w0 W (Cells b11 (rowCells ⟨pl, ⟨xc, xq, xl⟩, er⟩ (.slice dad xl.length dcap)) 32 :: Cells b12 (batCells ⟨xc, xq, xl⟩ (.slice dad xl.length dcap)) 29 :: Cells b4 [sv4, .bool s4.2] 66 :: Cells p5 (foldCells place pd xs) 61 :: DocAt pd d :: Sx.Own 2 1 (.slice pad pls.length pcap) pls.length (pls.map (Value.int .i64)) :: Fz H3 :: R))
    (hk : ∀ a W, Slots a 129 [(103, .bool true)] → Has 0 w0 W (Cells b11 (rowCells ⟨pl, ⟨xc, xq, xl⟩, er⟩ (.slice dad xl.length dcap)) 32 :: Cells b12 (batCells ⟨xc, xq, xl⟩ (.slice dad xl.length dcap)) 29 :: Cells b4 [sv4, .bool s4.2] 66 :: Cells p5 (foldCells place pd xs) 61 :: DocAt pd d :: Sx.Own 2 1 (.slice pad pls.length pcap) pls.length (pls.map (Value.int .i64)) :: Fz H3 :: R) → Q .normal a W) : (Code.regionOf 16 Tryd.f11.body).wp Tryd.prog Q a W := by
  change Code.wp Tryd.prog (Code.region 16 _ true) Q a W
  refine rg_draw (V := [.int .i64 err, .bool false, .bool false, .pointer (some ⟨b12, 0 + 0, none⟩), .int .i64 xc, .int .i64 (c : Int), .bool false, .bool false, .bool false, .pointer (some ⟨b12, 0 + 1, none⟩), .int .i64 xq, .int .i64 seq, .bool false, .bool false, .bool false, .pointer (some ⟨b11, 0 + 0, none⟩), .int .i64 pl, .bool false, .bool false, .bool false, .pointer (some ⟨b11, 0 + 0, none⟩), .int .i64 pl, .pointer (some ⟨p5, 0, none⟩), .pointer (some ⟨p5, 0, none⟩), .pointer (some ⟨p5, 0 + 0, none⟩), .int .i64 place, .bool false, .bool false, .bool false, .pointer (some ⟨b11, 0 + 4, none⟩), .int .i64 er, .bool true, .bool false, .bool false, .bool false, .slice pad pls.length pcap, .pointer (some ⟨b11, 0 + 0, none⟩), .int .i64 pl, .bool true, .bool true])
    (Rs := fun D => Cells b11 (rowCells ⟨pl, ⟨xc, xq, xl⟩, er⟩ (.slice dad xl.length dcap)) 32 :: Cells b12 (batCells ⟨xc, xq, xl⟩ (.slice dad xl.length dcap)) 29 :: Cells b4 [sv4, .bool s4.2] 66 :: Cells p5 (foldCells place pd xs) 61 :: DocAt pd d :: Sx.Own 2 1 (.slice pad pls.length pcap) pls.length (pls.map (Value.int .i64)) :: Fz H3 :: R) hs hw (ho := ⟨?_, ?c1_7, ?_, ?_, ?_, ?_, ?c6_7, ?_, ?_, ?_, ?_, ?_, ?c12_7, ?_, ?_, ?_, ?_, ?c17_7, ?_, ?_, ?_, ?_, ?_, ?_, ?_, ?_, ?c26_7, ?_, ?_, ?_, ?_, ?c31_7, ?_, ?_, ?_, ?_, ?_, ?_, ?c38_7, ?_, trivial⟩) (k := ?k_7)
  case c1_7 =>
    intro LD D a W hcl hi hp hs hw
    repeat (first | (refine sxv hs hw ?_; clear hs; intro a hs) | refine sxc hs ?_ | (refine sxa hs hw ?_; clear hs hw; intro a b W hw hs) | (refine sxs hs hw ?_; clear hs hw; intro W hs hw) | ((with_reducible first | refine st_ptrSome hs (k := ?_) | refine st_ptrNone hs (k := ?_)); clear hs; intro a hs))
    rw [k1] at hs
    exact ⟨hs, hw⟩
  case c6_7 =>
    intro LD D a W hcl hi hp hs hw
    repeat (first | (refine sxv hs hw ?_; clear hs; intro a hs) | refine sxc hs ?_ | (refine sxa hs hw ?_; clear hs hw; intro a b W hw hs) | (refine sxs hs hw ?_; clear hs hw; intro W hs hw) | ((with_reducible first | refine st_ptrSome hs (k := ?_) | refine st_ptrNone hs (k := ?_)); clear hs; intro a hs))
    rw [k2] at hs
    exact ⟨hs, hw⟩
  case c12_7 =>
    intro LD D a W hcl hi hp hs hw
    repeat (first | (refine sxv hs hw ?_; clear hs; intro a hs) | refine sxc hs ?_ | (refine sxa hs hw ?_; clear hs hw; intro a b W hw hs) | (refine sxs hs hw ?_; clear hs hw; intro W hs hw) | ((with_reducible first | refine st_ptrSome hs (k := ?_) | refine st_ptrNone hs (k := ?_)); clear hs; intro a hs))
    rw [k3] at hs
    exact ⟨hs, hw⟩
  case c17_7 =>
    intro LD D a W hcl hi hp hs hw
    repeat (first | (refine sxv hs hw ?_; clear hs; intro a hs) | refine sxc hs ?_ | (refine sxa hs hw ?_; clear hs hw; intro a b W hw hs) | (refine sxs hs hw ?_; clear hs hw; intro W hs hw) | ((with_reducible first | refine st_ptrSome hs (k := ?_) | refine st_ptrNone hs (k := ?_)); clear hs; intro a hs))
    rw [k4] at hs
    exact ⟨hs, hw⟩
  case c26_7 =>
    intro LD D a W hcl hi hp hs hw
    repeat (first | (refine sxv hs hw ?_; clear hs; intro a hs) | refine sxc hs ?_ | (refine sxa hs hw ?_; clear hs hw; intro a b W hw hs) | (refine sxs hs hw ?_; clear hs hw; intro W hs hw) | ((with_reducible first | refine st_ptrSome hs (k := ?_) | refine st_ptrNone hs (k := ?_)); clear hs; intro a hs))
    rw [k5] at hs
    exact ⟨hs, hw⟩
  case c31_7 =>
    intro LD D a W hcl hi hp hs hw
    repeat (first | (refine sxv hs hw ?_; clear hs; intro a hs) | refine sxc hs ?_ | (refine sxa hs hw ?_; clear hs hw; intro a b W hw hs) | (refine sxs hs hw ?_; clear hs hw; intro W hs hw) | ((with_reducible first | refine st_ptrSome hs (k := ?_) | refine st_ptrNone hs (k := ?_)); clear hs; intro a hs))
    refine st_call hs (hc := fold_fine er _) (k := ?_); rintro e0 W1 ⟨rfl, hb⟩; refine ⟨_, rfl, ?_⟩; clear hs; intro a hs; replace hw := hw.below hb; clear hb
    rw [kf6] at hs
    repeat (first | (refine sxv hs hw ?_; clear hs; intro a hs) | refine sxc hs ?_ | (refine sxa hs hw ?_; clear hs hw; intro a b W hw hs) | (refine sxs hs hw ?_; clear hs hw; intro W hs hw) | ((with_reducible first | refine st_ptrSome hs (k := ?_) | refine st_ptrNone hs (k := ?_)); clear hs; intro a hs))
    exact ⟨hs, hw⟩
  case c38_7 =>
    intro LD D a W hcl hi hp hs hw
    repeat (first | (refine sxv hs hw ?_; clear hs; intro a hs) | refine sxc hs ?_ | (refine sxa hs hw ?_; clear hs hw; intro a b W hw hs) | (refine sxs hs hw ?_; clear hs hw; intro W hs hw) | ((with_reducible first | refine st_ptrSome hs (k := ?_) | refine st_ptrNone hs (k := ?_)); clear hs; intro a hs))
    refine st_call hs (hc := sl_Contains pls _ pl _ hpll (hw.rd_own (In.tl (In.tl (In.tl (In.tl (In.tl In.hd))))))) (k := ?_); rintro e0 W1 ⟨rfl, hb⟩; refine ⟨_, rfl, ?_⟩; clear hs; intro a hs; replace hw := hw.below hb; clear hb
    rw [k7] at hs
    repeat (first | (refine sxv hs hw ?_; clear hs; intro a hs) | refine sxc hs ?_ | (refine sxa hs hw ?_; clear hs hw; intro a b W hw hs) | (refine sxs hs hw ?_; clear hs hw; intro W hs hw) | ((with_reducible first | refine st_ptrSome hs (k := ?_) | refine st_ptrNone hs (k := ?_)); clear hs; intro a hs))
    exact ⟨hs, hw⟩
  case k_7 =>
    clear hs hw
    intro a W hs hw
    replace hw : Has 0 w0 W (Cells b11 (rowCells ⟨pl, ⟨xc, xq, xl⟩, er⟩ (.slice dad xl.length dcap)) 32 :: Cells b12 (batCells ⟨xc, xq, xl⟩ (.slice dad xl.length dcap)) 29 :: Cells b4 [sv4, .bool s4.2] 66 :: Cells p5 (foldCells place pd xs) 61 :: DocAt pd d :: Sx.Own 2 1 (.slice pad pls.length pcap) pls.length (pls.map (Value.int .i64)) :: Fz H3 :: R) := hw
    refine hk a W (hs.of ?_) hw
    exact ⟨rfl, trivial⟩
  all_goals
    intro LD D a W hcl hi hp hs hw
    repeat (first | (refine sxv hs hw ?_; clear hs; intro a hs) | refine sxc hs ?_ | (refine sxa hs hw ?_; clear hs hw; intro a b W hw hs) | (refine sxs hs hw ?_; clear hs hw; intro W hs hw) | ((with_reducible first | refine st_ptrSome hs (k := ?_) | refine st_ptrNone hs (k := ?_)); clear hs; intro a hs))
    exact ⟨hs, hw⟩
end Go.Proofs.YtmalklakaalaoaaDoor.Sw

set_option linter.unusedVariables false
set_option maxRecDepth 10000
namespace Go.Proofs.YtmalklakaalaoaaDoor.Sw
open Go.RowKit Go.Sx
set_option maxHeartbeats 64000000 in
theorem fd_way6 {Q : Exit → Act → World → Prop} {a : Act} {w0 W : World} {H3 : Fh} {R : List Res} {bad0 pad dad : Option Addr} {nb bcap0 pcap dcap b4 p5 pd b11 b12 c : Nat} {place pl seq er err xc xq : Int} {xl : List OpD} {d : Dm} {sv4 : Value} {s4 : List UInt8 × Bool} {xs : List Value} {pls : List Int} (hpll : pls.length ≤ 1000) (k1 : (err != 0) = false) (k2 : (xc != (c : Int)) = false) (k3 : (xq != seq) = false) (k4 : decide (pl < 1) = false) (k5 : decide (pl > place) = false) (kf6 : fineE er = false)
    (hs : Slots a 129 [(0, .slice bad0 nb bcap0), (4, .pointer (some ⟨b4, 0, none⟩)), (5, .pointer (some ⟨p5, 0, none⟩)), (8, .slice pad pls.length pcap), (9, .int .i64 (c : Int)), (10, .int .i64 seq), (11, .pointer (some ⟨b11, 0, none⟩)), (12, .pointer (some ⟨b12, 0, none⟩)), (13, .int .i64 err)]) (hw : Has 0 w0 W (Cells b11 (rowCells ⟨pl, ⟨xc, xq, xl⟩, er⟩ (.slice dad xl.length dcap)) 32 :: Cells b12 (batCells ⟨xc, xq, xl⟩ (.slice dad xl.length dcap)) 29 :: Cells b4 [sv4, .bool s4.2] 66 :: Cells p5 (foldCells place pd xs) 61 :: DocAt pd d :: Sx.Own 2 1 (.slice pad pls.length pcap) pls.length (pls.map (Value.int .i64)) :: Fz H3 :: R))
    (hk : ∀ a W, Slots a 129 [(103, .bool true)] → Has 0 w0 W (Cells b11 (rowCells ⟨pl, ⟨xc, xq, xl⟩, er⟩ (.slice dad xl.length dcap)) 32 :: Cells b12 (batCells ⟨xc, xq, xl⟩ (.slice dad xl.length dcap)) 29 :: Cells b4 [sv4, .bool s4.2] 66 :: Cells p5 (foldCells place pd xs) 61 :: DocAt pd d :: Sx.Own 2 1 (.slice pad pls.length pcap) pls.length (pls.map (Value.int .i64)) :: Fz H3 :: R) → Q .normal a W) : (Code.regionOf 16 Tryd.f11.body).wp Tryd.prog Q a W := by
  change Code.wp Tryd.prog (Code.region 16 _ true) Q a W
  refine rg_draw (V := [.int .i64 err, .bool false, .bool false, .pointer (some ⟨b12, 0 + 0, none⟩), .int .i64 xc, .int .i64 (c : Int), .bool false, .bool false, .bool false, .pointer (some ⟨b12, 0 + 1, none⟩), .int .i64 xq, .int .i64 seq, .bool false, .bool false, .bool false, .pointer (some ⟨b11, 0 + 0, none⟩), .int .i64 pl, .bool false, .bool false, .bool false, .pointer (some ⟨b11, 0 + 0, none⟩), .int .i64 pl, .pointer (some ⟨p5, 0, none⟩), .pointer (some ⟨p5, 0, none⟩), .pointer (some ⟨p5, 0 + 0, none⟩), .int .i64 place, .bool false, .bool false, .bool false, .pointer (some ⟨b11, 0 + 4, none⟩), .int .i64 er, .bool false, .bool true, .bool true, .bool true, undef, undef, undef, undef, .bool true])
    (Rs := fun D => Cells b11 (rowCells ⟨pl, ⟨xc, xq, xl⟩, er⟩ (.slice dad xl.length dcap)) 32 :: Cells b12 (batCells ⟨xc, xq, xl⟩ (.slice dad xl.length dcap)) 29 :: Cells b4 [sv4, .bool s4.2] 66 :: Cells p5 (foldCells place pd xs) 61 :: DocAt pd d :: Sx.Own 2 1 (.slice pad pls.length pcap) pls.length (pls.map (Value.int .i64)) :: Fz H3 :: R) hs hw (ho := ⟨?_, ?c1_6, ?_, ?_, ?_, ?_, ?c6_6, ?_, ?_, ?_, ?_, ?_, ?c12_6, ?_, ?_, ?_, ?_, ?c17_6, ?_, ?_, ?_, ?_, ?_, ?_, ?_, ?_, ?c26_6, ?_, ?_, ?_, ?_, ?c31_6, ?_, ?_, ?_, ?_, ?_, ?_, ?_, ?_, trivial⟩) (k := ?k_6)
  case c1_6 =>
    intro LD D a W hcl hi hp hs hw
    repeat (first | (refine sxv hs hw ?_; clear hs; intro a hs) | refine sxc hs ?_ | (refine sxa hs hw ?_; clear hs hw; intro a b W hw hs) | (refine sxs hs hw ?_; clear hs hw; intro W hs hw) | ((with_reducible first | refine st_ptrSome hs (k := ?_) | refine st_ptrNone hs (k := ?_)); clear hs; intro a hs))
    rw [k1] at hs
    exact ⟨hs, hw⟩
  case c6_6 =>
    intro LD D a W hcl hi hp hs hw
    repeat (first | (refine sxv hs hw ?_; clear hs; intro a hs) | refine sxc hs ?_ | (refine sxa hs hw ?_; clear hs hw; intro a b W hw hs) | (refine sxs hs hw ?_; clear hs hw; intro W hs hw) | ((with_reducible first | refine st_ptrSome hs (k := ?_) | refine st_ptrNone hs (k := ?_)); clear hs; intro a hs))
    rw [k2] at hs
    exact ⟨hs, hw⟩
  case c12_6 =>
    intro LD D a W hcl hi hp hs hw
    repeat (first | (refine sxv hs hw ?_; clear hs; intro a hs) | refine sxc hs ?_ | (refine sxa hs hw ?_; clear hs hw; intro a b W hw hs) | (refine sxs hs hw ?_; clear hs hw; intro W hs hw) | ((with_reducible first | refine st_ptrSome hs (k := ?_) | refine st_ptrNone hs (k := ?_)); clear hs; intro a hs))
    rw [k3] at hs
    exact ⟨hs, hw⟩
  case c17_6 =>
    intro LD D a W hcl hi hp hs hw
    repeat (first | (refine sxv hs hw ?_; clear hs; intro a hs) | refine sxc hs ?_ | (refine sxa hs hw ?_; clear hs hw; intro a b W hw hs) | (refine sxs hs hw ?_; clear hs hw; intro W hs hw) | ((with_reducible first | refine st_ptrSome hs (k := ?_) | refine st_ptrNone hs (k := ?_)); clear hs; intro a hs))
    rw [k4] at hs
    exact ⟨hs, hw⟩
  case c26_6 =>
    intro LD D a W hcl hi hp hs hw
    repeat (first | (refine sxv hs hw ?_; clear hs; intro a hs) | refine sxc hs ?_ | (refine sxa hs hw ?_; clear hs hw; intro a b W hw hs) | (refine sxs hs hw ?_; clear hs hw; intro W hs hw) | ((with_reducible first | refine st_ptrSome hs (k := ?_) | refine st_ptrNone hs (k := ?_)); clear hs; intro a hs))
    rw [k5] at hs
    exact ⟨hs, hw⟩
  case c31_6 =>
    intro LD D a W hcl hi hp hs hw
    repeat (first | (refine sxv hs hw ?_; clear hs; intro a hs) | refine sxc hs ?_ | (refine sxa hs hw ?_; clear hs hw; intro a b W hw hs) | (refine sxs hs hw ?_; clear hs hw; intro W hs hw) | ((with_reducible first | refine st_ptrSome hs (k := ?_) | refine st_ptrNone hs (k := ?_)); clear hs; intro a hs))
    refine st_call hs (hc := fold_fine er _) (k := ?_); rintro e0 W1 ⟨rfl, hb⟩; refine ⟨_, rfl, ?_⟩; clear hs; intro a hs; replace hw := hw.below hb; clear hb
    rw [kf6] at hs
    repeat (first | (refine sxv hs hw ?_; clear hs; intro a hs) | refine sxc hs ?_ | (refine sxa hs hw ?_; clear hs hw; intro a b W hw hs) | (refine sxs hs hw ?_; clear hs hw; intro W hs hw) | ((with_reducible first | refine st_ptrSome hs (k := ?_) | refine st_ptrNone hs (k := ?_)); clear hs; intro a hs))
    exact ⟨hs, hw⟩
  case k_6 =>
    clear hs hw
    intro a W hs hw
    replace hw : Has 0 w0 W (Cells b11 (rowCells ⟨pl, ⟨xc, xq, xl⟩, er⟩ (.slice dad xl.length dcap)) 32 :: Cells b12 (batCells ⟨xc, xq, xl⟩ (.slice dad xl.length dcap)) 29 :: Cells b4 [sv4, .bool s4.2] 66 :: Cells p5 (foldCells place pd xs) 61 :: DocAt pd d :: Sx.Own 2 1 (.slice pad pls.length pcap) pls.length (pls.map (Value.int .i64)) :: Fz H3 :: R) := hw
    refine hk a W (hs.of ?_) hw
    exact ⟨rfl, trivial⟩
  all_goals
    intro LD D a W hcl hi hp hs hw
    repeat (first | (refine sxv hs hw ?_; clear hs; intro a hs) | refine sxc hs ?_ | (refine sxa hs hw ?_; clear hs hw; intro a b W hw hs) | (refine sxs hs hw ?_; clear hs hw; intro W hs hw) | ((with_reducible first | refine st_ptrSome hs (k := ?_) | refine st_ptrNone hs (k := ?_)); clear hs; intro a hs))
    exact ⟨hs, hw⟩
set_option maxHeartbeats 64000000 in
theorem fd_way5 {Q : Exit → Act → World → Prop} {a : Act} {w0 W : World} {H3 : Fh} {R : List Res} {bad0 pad dad : Option Addr} {nb bcap0 pcap dcap b4 p5 pd b11 b12 c : Nat} {place pl seq er err xc xq : Int} {xl : List OpD} {d : Dm} {sv4 : Value} {s4 : List UInt8 × Bool} {xs : List Value} {pls : List Int} (hpll : pls.length ≤ 1000) (k1 : (err != 0) = false) (k2 : (xc != (c : Int)) = false) (k3 : (xq != seq) = false) (k4 : decide (pl < 1) = false) (k5 : decide (pl > place) = true)
    (hs : Slots a 129 [(0, .slice bad0 nb bcap0), (4, .pointer (some ⟨b4, 0, none⟩)), (5, .pointer (some ⟨p5, 0, none⟩)), (8, .slice pad pls.length pcap), (9, .int .i64 (c : Int)), (10, .int .i64 seq), (11, .pointer (some ⟨b11, 0, none⟩)), (12, .pointer (some ⟨b12, 0, none⟩)), (13, .int .i64 err)]) (hw : Has 0 w0 W (Cells b11 (rowCells ⟨pl, ⟨xc, xq, xl⟩, er⟩ (.slice dad xl.length dcap)) 32 :: Cells b12 (batCells ⟨xc, xq, xl⟩ (.slice dad xl.length dcap)) 29 :: Cells b4 [sv4, .bool s4.2] 66 :: Cells p5 (foldCells place pd xs) 61 :: DocAt pd d :: Sx.Own 2 1 (.slice pad pls.length pcap) pls.length (pls.map (Value.int .i64)) :: Fz H3 :: R))
    (hk : ∀ a W, Slots a 129 [(103, .bool true)] → Has 0 w0 W (Cells b11 (rowCells ⟨pl, ⟨xc, xq, xl⟩, er⟩ (.slice dad xl.length dcap)) 32 :: Cells b12 (batCells ⟨xc, xq, xl⟩ (.slice dad xl.length dcap)) 29 :: Cells b4 [sv4, .bool s4.2] 66 :: Cells p5 (foldCells place pd xs) 61 :: DocAt pd d :: Sx.Own 2 1 (.slice pad pls.length pcap) pls.length (pls.map (Value.int .i64)) :: Fz H3 :: R) → Q .normal a W) : (Code.regionOf 16 Tryd.f11.body).wp Tryd.prog Q a W := by
  change Code.wp Tryd.prog (Code.region 16 _ true) Q a W
  refine rg_draw (V := [.int .i64 err, .bool false, .bool false, .pointer (some ⟨b12, 0 + 0, none⟩), .int .i64 xc, .int .i64 (c : Int), .bool false, .bool false, .bool false, .pointer (some ⟨b12, 0 + 1, none⟩), .int .i64 xq, .int .i64 seq, .bool false, .bool false, .bool false, .pointer (some ⟨b11, 0 + 0, none⟩), .int .i64 pl, .bool false, .bool false, .bool false, .pointer (some ⟨b11, 0 + 0, none⟩), .int .i64 pl, .pointer (some ⟨p5, 0, none⟩), .pointer (some ⟨p5, 0, none⟩), .pointer (some ⟨p5, 0 + 0, none⟩), .int .i64 place, .bool true, .bool true, .bool true, undef, undef, undef, undef, .bool true, .bool true, undef, undef, undef, undef, .bool true])
    (Rs := fun D => Cells b11 (rowCells ⟨pl, ⟨xc, xq, xl⟩, er⟩ (.slice dad xl.length dcap)) 32 :: Cells b12 (batCells ⟨xc, xq, xl⟩ (.slice dad xl.length dcap)) 29 :: Cells b4 [sv4, .bool s4.2] 66 :: Cells p5 (foldCells place pd xs) 61 :: DocAt pd d :: Sx.Own 2 1 (.slice pad pls.length pcap) pls.length (pls.map (Value.int .i64)) :: Fz H3 :: R) hs hw (ho := ⟨?_, ?c1_5, ?_, ?_, ?_, ?_, ?c6_5, ?_, ?_, ?_, ?_, ?_, ?c12_5, ?_, ?_, ?_, ?_, ?c17_5, ?_, ?_, ?_, ?_, ?_, ?_, ?_, ?_, ?c26_5, ?_, ?_, ?_, ?_, ?_, ?_, ?_, ?_, ?_, ?_, ?_, ?_, ?_, trivial⟩) (k := ?k_5)
  case c1_5 =>
    intro LD D a W hcl hi hp hs hw
    repeat (first | (refine sxv hs hw ?_; clear hs; intro a hs) | refine sxc hs ?_ | (refine sxa hs hw ?_; clear hs hw; intro a b W hw hs) | (refine sxs hs hw ?_; clear hs hw; intro W hs hw) | ((with_reducible first | refine st_ptrSome hs (k := ?_) | refine st_ptrNone hs (k := ?_)); clear hs; intro a hs))
    rw [k1] at hs
    exact ⟨hs, hw⟩
  case c6_5 =>
    intro LD D a W hcl hi hp hs hw
    repeat (first | (refine sxv hs hw ?_; clear hs; intro a hs) | refine sxc hs ?_ | (refine sxa hs hw ?_; clear hs hw; intro a b W hw hs) | (refine sxs hs hw ?_; clear hs hw; intro W hs hw) | ((with_reducible first | refine st_ptrSome hs (k := ?_) | refine st_ptrNone hs (k := ?_)); clear hs; intro a hs))
    rw [k2] at hs
    exact ⟨hs, hw⟩
  case c12_5 =>
    intro LD D a W hcl hi hp hs hw
    repeat (first | (refine sxv hs hw ?_; clear hs; intro a hs) | refine sxc hs ?_ | (refine sxa hs hw ?_; clear hs hw; intro a b W hw hs) | (refine sxs hs hw ?_; clear hs hw; intro W hs hw) | ((with_reducible first | refine st_ptrSome hs (k := ?_) | refine st_ptrNone hs (k := ?_)); clear hs; intro a hs))
    rw [k3] at hs
    exact ⟨hs, hw⟩
  case c17_5 =>
    intro LD D a W hcl hi hp hs hw
    repeat (first | (refine sxv hs hw ?_; clear hs; intro a hs) | refine sxc hs ?_ | (refine sxa hs hw ?_; clear hs hw; intro a b W hw hs) | (refine sxs hs hw ?_; clear hs hw; intro W hs hw) | ((with_reducible first | refine st_ptrSome hs (k := ?_) | refine st_ptrNone hs (k := ?_)); clear hs; intro a hs))
    rw [k4] at hs
    exact ⟨hs, hw⟩
  case c26_5 =>
    intro LD D a W hcl hi hp hs hw
    repeat (first | (refine sxv hs hw ?_; clear hs; intro a hs) | refine sxc hs ?_ | (refine sxa hs hw ?_; clear hs hw; intro a b W hw hs) | (refine sxs hs hw ?_; clear hs hw; intro W hs hw) | ((with_reducible first | refine st_ptrSome hs (k := ?_) | refine st_ptrNone hs (k := ?_)); clear hs; intro a hs))
    rw [k5] at hs
    exact ⟨hs, hw⟩
  case k_5 =>
    clear hs hw
    intro a W hs hw
    replace hw : Has 0 w0 W (Cells b11 (rowCells ⟨pl, ⟨xc, xq, xl⟩, er⟩ (.slice dad xl.length dcap)) 32 :: Cells b12 (batCells ⟨xc, xq, xl⟩ (.slice dad xl.length dcap)) 29 :: Cells b4 [sv4, .bool s4.2] 66 :: Cells p5 (foldCells place pd xs) 61 :: DocAt pd d :: Sx.Own 2 1 (.slice pad pls.length pcap) pls.length (pls.map (Value.int .i64)) :: Fz H3 :: R) := hw
    refine hk a W (hs.of ?_) hw
    exact ⟨rfl, trivial⟩
  all_goals
    intro LD D a W hcl hi hp hs hw
    repeat (first | (refine sxv hs hw ?_; clear hs; intro a hs) | refine sxc hs ?_ | (refine sxa hs hw ?_; clear hs hw; intro a b W hw hs) | (refine sxs hs hw ?_; clear hs hw; intro W hs hw) | ((with_reducible first | refine st_ptrSome hs (k := ?_) | refine st_ptrNone hs (k := ?_)); clear hs; intro a hs))
    exact ⟨hs, hw⟩
end Go.Proofs.YtmalklakaalaoaaDoor.Sw

set_option linter.unusedVariables false
set_option maxRecDepth 10000
namespace Go.Proofs.YtmalklakaalaoaaDoor.Sw
open Go.RowKit Go.Sx
set_option maxHeartbeats 64000000 in
theorem fd_way4 {Q : Exit → Act → World → Prop} {a : Act} {w0 W : World} {H3 : Fh} {R : List Res} {bad0 pad dad : Option Addr} {nb bcap0 pcap dcap b4 p5 pd b11 b12 c : Nat} {place pl seq er err xc xq : Int} {xl : List OpD} {d : Dm} {sv4 : Value} {s4 : List UInt8 × Bool} {xs : List Value} {pls : List Int} (hpll : pls.length ≤ 1000) (k1 : (err != 0) = false) (k2 : (xc != (c : Int)) = false) (k3 : (xq != seq) = false) (k4 : decide (pl < 1) = true)
    (hs : Slots a 129 [(0, .slice bad0 nb bcap0), (4, .pointer (some ⟨b4, 0, none⟩)), (5, .pointer (some ⟨p5, 0, none⟩)), (8, .slice pad pls.length pcap), (9, .int .i64 (c : Int)), (10, .int .i64 seq), (11, .pointer (some ⟨b11, 0, none⟩)), (12, .pointer (some ⟨b12, 0, none⟩)), (13, .int .i64 err)]) (hw : Has 0 w0 W (Cells b11 (rowCells ⟨pl, ⟨xc, xq, xl⟩, er⟩ (.slice dad xl.length dcap)) 32 :: Cells b12 (batCells ⟨xc, xq, xl⟩ (.slice dad xl.length dcap)) 29 :: Cells b4 [sv4, .bool s4.2] 66 :: Cells p5 (foldCells place pd xs) 61 :: DocAt pd d :: Sx.Own 2 1 (.slice pad pls.length pcap) pls.length (pls.map (Value.int .i64)) :: Fz H3 :: R))
    (hk : ∀ a W, Slots a 129 [(103, .bool true)] → Has 0 w0 W (Cells b11 (rowCells ⟨pl, ⟨xc, xq, xl⟩, er⟩ (.slice dad xl.length dcap)) 32 :: Cells b12 (batCells ⟨xc, xq, xl⟩ (.slice dad xl.length dcap)) 29 :: Cells b4 [sv4, .bool s4.2] 66 :: Cells p5 (foldCells place pd xs) 61 :: DocAt pd d :: Sx.Own 2 1 (.slice pad pls.length pcap) pls.length (pls.map (Value.int .i64)) :: Fz H3 :: R) → Q .normal a W) : (Code.regionOf 16 Tryd.f11.body).wp Tryd.prog Q a W := by
  change Code.wp Tryd.prog (Code.region 16 _ true) Q a W
  refine rg_draw (V := [.int .i64 err, .bool false, .bool false, .pointer (some ⟨b12, 0 + 0, none⟩), .int .i64 xc, .int .i64 (c : Int), .bool false, .bool false, .bool false, .pointer (some ⟨b12, 0 + 1, none⟩), .int .i64 xq, .int .i64 seq, .bool false, .bool false, .bool false, .pointer (some ⟨b11, 0 + 0, none⟩), .int .i64 pl, .bool true, .bool true, .bool true, undef, undef, undef, undef, undef, undef, undef, .bool true, .bool true, undef, undef, undef, undef, .bool true, .bool true, undef, undef, undef, undef, .bool true])
    (Rs := fun D => Cells b11 (rowCells ⟨pl, ⟨xc, xq, xl⟩, er⟩ (.slice dad xl.length dcap)) 32 :: Cells b12 (batCells ⟨xc, xq, xl⟩ (.slice dad xl.length dcap)) 29 :: Cells b4 [sv4, .bool s4.2] 66 :: Cells p5 (foldCells place pd xs) 61 :: DocAt pd d :: Sx.Own 2 1 (.slice pad pls.length pcap) pls.length (pls.map (Value.int .i64)) :: Fz H3 :: R) hs hw (ho := ⟨?_, ?c1_4, ?_, ?_, ?_, ?_, ?c6_4, ?_, ?_, ?_, ?_, ?_, ?c12_4, ?_, ?_, ?_, ?_, ?c17_4, ?_, ?_, ?_, ?_, ?_, ?_, ?_, ?_, ?_, ?_, ?_, ?_, ?_, ?_, ?_, ?_, ?_, ?_, ?_, ?_, ?_, ?_, trivial⟩) (k := ?k_4)
  case c1_4 =>
    intro LD D a W hcl hi hp hs hw
    repeat (first | (refine sxv hs hw ?_; clear hs; intro a hs) | refine sxc hs ?_ | (refine sxa hs hw ?_; clear hs hw; intro a b W hw hs) | (refine sxs hs hw ?_; clear hs hw; intro W hs hw) | ((with_reducible first | refine st_ptrSome hs (k := ?_) | refine st_ptrNone hs (k := ?_)); clear hs; intro a hs))
    rw [k1] at hs
    exact ⟨hs, hw⟩
  case c6_4 =>
    intro LD D a W hcl hi hp hs hw
    repeat (first | (refine sxv hs hw ?_; clear hs; intro a hs) | refine sxc hs ?_ | (refine sxa hs hw ?_; clear hs hw; intro a b W hw hs) | (refine sxs hs hw ?_; clear hs hw; intro W hs hw) | ((with_reducible first | refine st_ptrSome hs (k := ?_) | refine st_ptrNone hs (k := ?_)); clear hs; intro a hs))
    rw [k2] at hs
    exact ⟨hs, hw⟩
  case c12_4 =>
    intro LD D a W hcl hi hp hs hw
    repeat (first | (refine sxv hs hw ?_; clear hs; intro a hs) | refine sxc hs ?_ | (refine sxa hs hw ?_; clear hs hw; intro a b W hw hs) | (refine sxs hs hw ?_; clear hs hw; intro W hs hw) | ((with_reducible first | refine st_ptrSome hs (k := ?_) | refine st_ptrNone hs (k := ?_)); clear hs; intro a hs))
    rw [k3] at hs
    exact ⟨hs, hw⟩
  case c17_4 =>
    intro LD D a W hcl hi hp hs hw
    repeat (first | (refine sxv hs hw ?_; clear hs; intro a hs) | refine sxc hs ?_ | (refine sxa hs hw ?_; clear hs hw; intro a b W hw hs) | (refine sxs hs hw ?_; clear hs hw; intro W hs hw) | ((with_reducible first | refine st_ptrSome hs (k := ?_) | refine st_ptrNone hs (k := ?_)); clear hs; intro a hs))
    rw [k4] at hs
    exact ⟨hs, hw⟩
  case k_4 =>
    clear hs hw
    intro a W hs hw
    replace hw : Has 0 w0 W (Cells b11 (rowCells ⟨pl, ⟨xc, xq, xl⟩, er⟩ (.slice dad xl.length dcap)) 32 :: Cells b12 (batCells ⟨xc, xq, xl⟩ (.slice dad xl.length dcap)) 29 :: Cells b4 [sv4, .bool s4.2] 66 :: Cells p5 (foldCells place pd xs) 61 :: DocAt pd d :: Sx.Own 2 1 (.slice pad pls.length pcap) pls.length (pls.map (Value.int .i64)) :: Fz H3 :: R) := hw
    refine hk a W (hs.of ?_) hw
    exact ⟨rfl, trivial⟩
  all_goals
    intro LD D a W hcl hi hp hs hw
    repeat (first | (refine sxv hs hw ?_; clear hs; intro a hs) | refine sxc hs ?_ | (refine sxa hs hw ?_; clear hs hw; intro a b W hw hs) | (refine sxs hs hw ?_; clear hs hw; intro W hs hw) | ((with_reducible first | refine st_ptrSome hs (k := ?_) | refine st_ptrNone hs (k := ?_)); clear hs; intro a hs))
    exact ⟨hs, hw⟩
set_option maxHeartbeats 64000000 in
theorem fd_way3 {Q : Exit → Act → World → Prop} {a : Act} {w0 W : World} {H3 : Fh} {R : List Res} {bad0 pad dad : Option Addr} {nb bcap0 pcap dcap b4 p5 pd b11 b12 c : Nat} {place pl seq er err xc xq : Int} {xl : List OpD} {d : Dm} {sv4 : Value} {s4 : List UInt8 × Bool} {xs : List Value} {pls : List Int} (hpll : pls.length ≤ 1000) (k1 : (err != 0) = false) (k2 : (xc != (c : Int)) = false) (k3 : (xq != seq) = true)
    (hs : Slots a 129 [(0, .slice bad0 nb bcap0), (4, .pointer (some ⟨b4, 0, none⟩)), (5, .pointer (some ⟨p5, 0, none⟩)), (8, .slice pad pls.length pcap), (9, .int .i64 (c : Int)), (10, .int .i64 seq), (11, .pointer (some ⟨b11, 0, none⟩)), (12, .pointer (some ⟨b12, 0, none⟩)), (13, .int .i64 err)]) (hw : Has 0 w0 W (Cells b11 (rowCells ⟨pl, ⟨xc, xq, xl⟩, er⟩ (.slice dad xl.length dcap)) 32 :: Cells b12 (batCells ⟨xc, xq, xl⟩ (.slice dad xl.length dcap)) 29 :: Cells b4 [sv4, .bool s4.2] 66 :: Cells p5 (foldCells place pd xs) 61 :: DocAt pd d :: Sx.Own 2 1 (.slice pad pls.length pcap) pls.length (pls.map (Value.int .i64)) :: Fz H3 :: R))
    (hk : ∀ a W, Slots a 129 [(103, .bool true)] → Has 0 w0 W (Cells b11 (rowCells ⟨pl, ⟨xc, xq, xl⟩, er⟩ (.slice dad xl.length dcap)) 32 :: Cells b12 (batCells ⟨xc, xq, xl⟩ (.slice dad xl.length dcap)) 29 :: Cells b4 [sv4, .bool s4.2] 66 :: Cells p5 (foldCells place pd xs) 61 :: DocAt pd d :: Sx.Own 2 1 (.slice pad pls.length pcap) pls.length (pls.map (Value.int .i64)) :: Fz H3 :: R) → Q .normal a W) : (Code.regionOf 16 Tryd.f11.body).wp Tryd.prog Q a W := by
  change Code.wp Tryd.prog (Code.region 16 _ true) Q a W
  refine rg_draw (V := [.int .i64 err, .bool false, .bool false, .pointer (some ⟨b12, 0 + 0, none⟩), .int .i64 xc, .int .i64 (c : Int), .bool false, .bool false, .bool false, .pointer (some ⟨b12, 0 + 1, none⟩), .int .i64 xq, .int .i64 seq, .bool true, .bool true, .bool true, undef, undef, undef, .bool true, .bool true, undef, undef, undef, undef, undef, undef, undef, .bool true, .bool true, undef, undef, undef, undef, .bool true, .bool true, undef, undef, undef, undef, .bool true])
    (Rs := fun D => Cells b11 (rowCells ⟨pl, ⟨xc, xq, xl⟩, er⟩ (.slice dad xl.length dcap)) 32 :: Cells b12 (batCells ⟨xc, xq, xl⟩ (.slice dad xl.length dcap)) 29 :: Cells b4 [sv4, .bool s4.2] 66 :: Cells p5 (foldCells place pd xs) 61 :: DocAt pd d :: Sx.Own 2 1 (.slice pad pls.length pcap) pls.length (pls.map (Value.int .i64)) :: Fz H3 :: R) hs hw (ho := ⟨?_, ?c1_3, ?_, ?_, ?_, ?_, ?c6_3, ?_, ?_, ?_, ?_, ?_, ?c12_3, ?_, ?_, ?_, ?_, ?_, ?_, ?_, ?_, ?_, ?_, ?_, ?_, ?_, ?_, ?_, ?_, ?_, ?_, ?_, ?_, ?_, ?_, ?_, ?_, ?_, ?_, ?_, trivial⟩) (k := ?k_3)
  case c1_3 =>
    intro LD D a W hcl hi hp hs hw
    repeat (first | (refine sxv hs hw ?_; clear hs; intro a hs) | refine sxc hs ?_ | (refine sxa hs hw ?_; clear hs hw; intro a b W hw hs) | (refine sxs hs hw ?_; clear hs hw; intro W hs hw) | ((with_reducible first | refine st_ptrSome hs (k := ?_) | refine st_ptrNone hs (k := ?_)); clear hs; intro a hs))
    rw [k1] at hs
    exact ⟨hs, hw⟩
  case c6_3 =>
    intro LD D a W hcl hi hp hs hw
    repeat (first | (refine sxv hs hw ?_; clear hs; intro a hs) | refine sxc hs ?_ | (refine sxa hs hw ?_; clear hs hw; intro a b W hw hs) | (refine sxs hs hw ?_; clear hs hw; intro W hs hw) | ((with_reducible first | refine st_ptrSome hs (k := ?_) | refine st_ptrNone hs (k := ?_)); clear hs; intro a hs))
    rw [k2] at hs
    exact ⟨hs, hw⟩
  case c12_3 =>
    intro LD D a W hcl hi hp hs hw
    repeat (first | (refine sxv hs hw ?_; clear hs; intro a hs) | refine sxc hs ?_ | (refine sxa hs hw ?_; clear hs hw; intro a b W hw hs) | (refine sxs hs hw ?_; clear hs hw; intro W hs hw) | ((with_reducible first | refine st_ptrSome hs (k := ?_) | refine st_ptrNone hs (k := ?_)); clear hs; intro a hs))
    rw [k3] at hs
    exact ⟨hs, hw⟩
  case k_3 =>
    clear hs hw
    intro a W hs hw
    replace hw : Has 0 w0 W (Cells b11 (rowCells ⟨pl, ⟨xc, xq, xl⟩, er⟩ (.slice dad xl.length dcap)) 32 :: Cells b12 (batCells ⟨xc, xq, xl⟩ (.slice dad xl.length dcap)) 29 :: Cells b4 [sv4, .bool s4.2] 66 :: Cells p5 (foldCells place pd xs) 61 :: DocAt pd d :: Sx.Own 2 1 (.slice pad pls.length pcap) pls.length (pls.map (Value.int .i64)) :: Fz H3 :: R) := hw
    refine hk a W (hs.of ?_) hw
    exact ⟨rfl, trivial⟩
  all_goals
    intro LD D a W hcl hi hp hs hw
    repeat (first | (refine sxv hs hw ?_; clear hs; intro a hs) | refine sxc hs ?_ | (refine sxa hs hw ?_; clear hs hw; intro a b W hw hs) | (refine sxs hs hw ?_; clear hs hw; intro W hs hw) | ((with_reducible first | refine st_ptrSome hs (k := ?_) | refine st_ptrNone hs (k := ?_)); clear hs; intro a hs))
    exact ⟨hs, hw⟩
set_option maxHeartbeats 64000000 in
theorem fd_way2 {Q : Exit → Act → World → Prop} {a : Act} {w0 W : World} {H3 : Fh} {R : List Res} {bad0 pad dad : Option Addr} {nb bcap0 pcap dcap b4 p5 pd b11 b12 c : Nat} {place pl seq er err xc xq : Int} {xl : List OpD} {d : Dm} {sv4 : Value} {s4 : List UInt8 × Bool} {xs : List Value} {pls : List Int} (hpll : pls.length ≤ 1000) (k1 : (err != 0) = false) (k2 : (xc != (c : Int)) = true)
    (hs : Slots a 129 [(0, .slice bad0 nb bcap0), (4, .pointer (some ⟨b4, 0, none⟩)), (5, .pointer (some ⟨p5, 0, none⟩)), (8, .slice pad pls.length pcap), (9, .int .i64 (c : Int)), (10, .int .i64 seq), (11, .pointer (some ⟨b11, 0, none⟩)), (12, .pointer (some ⟨b12, 0, none⟩)), (13, .int .i64 err)]) (hw : Has 0 w0 W (Cells b11 (rowCells ⟨pl, ⟨xc, xq, xl⟩, er⟩ (.slice dad xl.length dcap)) 32 :: Cells b12 (batCells ⟨xc, xq, xl⟩ (.slice dad xl.length dcap)) 29 :: Cells b4 [sv4, .bool s4.2] 66 :: Cells p5 (foldCells place pd xs) 61 :: DocAt pd d :: Sx.Own 2 1 (.slice pad pls.length pcap) pls.length (pls.map (Value.int .i64)) :: Fz H3 :: R))
    (hk : ∀ a W, Slots a 129 [(103, .bool true)] → Has 0 w0 W (Cells b11 (rowCells ⟨pl, ⟨xc, xq, xl⟩, er⟩ (.slice dad xl.length dcap)) 32 :: Cells b12 (batCells ⟨xc, xq, xl⟩ (.slice dad xl.length dcap)) 29 :: Cells b4 [sv4, .bool s4.2] 66 :: Cells p5 (foldCells place pd xs) 61 :: DocAt pd d :: Sx.Own 2 1 (.slice pad pls.length pcap) pls.length (pls.map (Value.int .i64)) :: Fz H3 :: R) → Q .normal a W) : (Code.regionOf 16 Tryd.f11.body).wp Tryd.prog Q a W := by
  change Code.wp Tryd.prog (Code.region 16 _ true) Q a W
  refine rg_draw (V := [.int .i64 err, .bool false, .bool false, .pointer (some ⟨b12, 0 + 0, none⟩), .int .i64 xc, .int .i64 (c : Int), .bool true, .bool true, .bool true, undef, undef, undef, undef, .bool true, .bool true, undef, undef, undef, .bool true, .bool true, undef, undef, undef, undef, undef, undef, undef, .bool true, .bool true, undef, undef, undef, undef, .bool true, .bool true, undef, undef, undef, undef, .bool true])
    (Rs := fun D => Cells b11 (rowCells ⟨pl, ⟨xc, xq, xl⟩, er⟩ (.slice dad xl.length dcap)) 32 :: Cells b12 (batCells ⟨xc, xq, xl⟩ (.slice dad xl.length dcap)) 29 :: Cells b4 [sv4, .bool s4.2] 66 :: Cells p5 (foldCells place pd xs) 61 :: DocAt pd d :: Sx.Own 2 1 (.slice pad pls.length pcap) pls.length (pls.map (Value.int .i64)) :: Fz H3 :: R) hs hw (ho := ⟨?_, ?c1_2, ?_, ?_, ?_, ?_, ?c6_2, ?_, ?_, ?_, ?_, ?_, ?_, ?_, ?_, ?_, ?_, ?_, ?_, ?_, ?_, ?_, ?_, ?_, ?_, ?_, ?_, ?_, ?_, ?_, ?_, ?_, ?_, ?_, ?_, ?_, ?_, ?_, ?_, ?_, trivial⟩) (k := ?k_2)
  case c1_2 =>
    intro LD D a W hcl hi hp hs hw
    repeat (first | (refine sxv hs hw ?_; clear hs; intro a hs) | refine sxc hs ?_ | (refine sxa hs hw ?_; clear hs hw; intro a b W hw hs) | (refine sxs hs hw ?_; clear hs hw; intro W hs hw) | ((with_reducible first | refine st_ptrSome hs (k := ?_) | refine st_ptrNone hs (k := ?_)); clear hs; intro a hs))
    rw [k1] at hs
    exact ⟨hs, hw⟩
  case c6_2 =>
    intro LD D a W hcl hi hp hs hw
    repeat (first | (refine sxv hs hw ?_; clear hs; intro a hs) | refine sxc hs ?_ | (refine sxa hs hw ?_; clear hs hw; intro a b W hw hs) | (refine sxs hs hw ?_; clear hs hw; intro W hs hw) | ((with_reducible first | refine st_ptrSome hs (k := ?_) | refine st_ptrNone hs (k := ?_)); clear hs; intro a hs))
    rw [k2] at hs
    exact ⟨hs, hw⟩
  case k_2 =>
    clear hs hw
    intro a W hs hw
    replace hw : Has 0 w0 W (Cells b11 (rowCells ⟨pl, ⟨xc, xq, xl⟩, er⟩ (.slice dad xl.length dcap)) 32 :: Cells b12 (batCells ⟨xc, xq, xl⟩ (.slice dad xl.length dcap)) 29 :: Cells b4 [sv4, .bool s4.2] 66 :: Cells p5 (foldCells place pd xs) 61 :: DocAt pd d :: Sx.Own 2 1 (.slice pad pls.length pcap) pls.length (pls.map (Value.int .i64)) :: Fz H3 :: R) := hw
    refine hk a W (hs.of ?_) hw
    exact ⟨rfl, trivial⟩
  all_goals
    intro LD D a W hcl hi hp hs hw
    repeat (first | (refine sxv hs hw ?_; clear hs; intro a hs) | refine sxc hs ?_ | (refine sxa hs hw ?_; clear hs hw; intro a b W hw hs) | (refine sxs hs hw ?_; clear hs hw; intro W hs hw) | ((with_reducible first | refine st_ptrSome hs (k := ?_) | refine st_ptrNone hs (k := ?_)); clear hs; intro a hs))
    exact ⟨hs, hw⟩
set_option maxHeartbeats 64000000 in
theorem fd_way1 {Q : Exit → Act → World → Prop} {a : Act} {w0 W : World} {H3 : Fh} {R : List Res} {bad0 pad dad : Option Addr} {nb bcap0 pcap dcap b4 p5 pd b11 b12 c : Nat} {place pl seq er err xc xq : Int} {xl : List OpD} {d : Dm} {sv4 : Value} {s4 : List UInt8 × Bool} {xs : List Value} {pls : List Int} (hpll : pls.length ≤ 1000) (k1 : (err != 0) = true)
    (hs : Slots a 129 [(0, .slice bad0 nb bcap0), (4, .pointer (some ⟨b4, 0, none⟩)), (5, .pointer (some ⟨p5, 0, none⟩)), (8, .slice pad pls.length pcap), (9, .int .i64 (c : Int)), (10, .int .i64 seq), (11, .pointer (some ⟨b11, 0, none⟩)), (12, .pointer (some ⟨b12, 0, none⟩)), (13, .int .i64 err)]) (hw : Has 0 w0 W (Cells b11 (rowCells ⟨pl, ⟨xc, xq, xl⟩, er⟩ (.slice dad xl.length dcap)) 32 :: Cells b12 (batCells ⟨xc, xq, xl⟩ (.slice dad xl.length dcap)) 29 :: Cells b4 [sv4, .bool s4.2] 66 :: Cells p5 (foldCells place pd xs) 61 :: DocAt pd d :: Sx.Own 2 1 (.slice pad pls.length pcap) pls.length (pls.map (Value.int .i64)) :: Fz H3 :: R))
    (hk : ∀ a W, Slots a 129 [(103, .bool true)] → Has 0 w0 W (Cells b11 (rowCells ⟨pl, ⟨xc, xq, xl⟩, er⟩ (.slice dad xl.length dcap)) 32 :: Cells b12 (batCells ⟨xc, xq, xl⟩ (.slice dad xl.length dcap)) 29 :: Cells b4 [sv4, .bool s4.2] 66 :: Cells p5 (foldCells place pd xs) 61 :: DocAt pd d :: Sx.Own 2 1 (.slice pad pls.length pcap) pls.length (pls.map (Value.int .i64)) :: Fz H3 :: R) → Q .normal a W) : (Code.regionOf 16 Tryd.f11.body).wp Tryd.prog Q a W := by
  change Code.wp Tryd.prog (Code.region 16 _ true) Q a W
  refine rg_draw (V := [.int .i64 err, .bool true, .bool true, undef, undef, undef, undef, .bool true, .bool true, undef, undef, undef, undef, .bool true, .bool true, undef, undef, undef, .bool true, .bool true, undef, undef, undef, undef, undef, undef, undef, .bool true, .bool true, undef, undef, undef, undef, .bool true, .bool true, undef, undef, undef, undef, .bool true])
    (Rs := fun D => Cells b11 (rowCells ⟨pl, ⟨xc, xq, xl⟩, er⟩ (.slice dad xl.length dcap)) 32 :: Cells b12 (batCells ⟨xc, xq, xl⟩ (.slice dad xl.length dcap)) 29 :: Cells b4 [sv4, .bool s4.2] 66 :: Cells p5 (foldCells place pd xs) 61 :: DocAt pd d :: Sx.Own 2 1 (.slice pad pls.length pcap) pls.length (pls.map (Value.int .i64)) :: Fz H3 :: R) hs hw (ho := ⟨?_, ?c1_1, ?_, ?_, ?_, ?_, ?_, ?_, ?_, ?_, ?_, ?_, ?_, ?_, ?_, ?_, ?_, ?_, ?_, ?_, ?_, ?_, ?_, ?_, ?_, ?_, ?_, ?_, ?_, ?_, ?_, ?_, ?_, ?_, ?_, ?_, ?_, ?_, ?_, ?_, trivial⟩) (k := ?k_1)
  case c1_1 =>
    intro LD D a W hcl hi hp hs hw
    repeat (first | (refine sxv hs hw ?_; clear hs; intro a hs) | refine sxc hs ?_ | (refine sxa hs hw ?_; clear hs hw; intro a b W hw hs) | (refine sxs hs hw ?_; clear hs hw; intro W hs hw) | ((with_reducible first | refine st_ptrSome hs (k := ?_) | refine st_ptrNone hs (k := ?_)); clear hs; intro a hs))
    rw [k1] at hs
    exact ⟨hs, hw⟩
  case k_1 =>
    clear hs hw
    intro a W hs hw
    replace hw : Has 0 w0 W (Cells b11 (rowCells ⟨pl, ⟨xc, xq, xl⟩, er⟩ (.slice dad xl.length dcap)) 32 :: Cells b12 (batCells ⟨xc, xq, xl⟩ (.slice dad xl.length dcap)) 29 :: Cells b4 [sv4, .bool s4.2] 66 :: Cells p5 (foldCells place pd xs) 61 :: DocAt pd d :: Sx.Own 2 1 (.slice pad pls.length pcap) pls.length (pls.map (Value.int .i64)) :: Fz H3 :: R) := hw
    refine hk a W (hs.of ?_) hw
    exact ⟨rfl, trivial⟩
  all_goals
    intro LD D a W hcl hi hp hs hw
    repeat (first | (refine sxv hs hw ?_; clear hs; intro a hs) | refine sxc hs ?_ | (refine sxa hs hw ?_; clear hs hw; intro a b W hw hs) | (refine sxs hs hw ?_; clear hs hw; intro W hs hw) | ((with_reducible first | refine st_ptrSome hs (k := ?_) | refine st_ptrNone hs (k := ?_)); clear hs; intro a hs))
    exact ⟨hs, hw⟩
end Go.Proofs.YtmalklakaalaoaaDoor.Sw

set_option linter.unusedVariables false
set_option maxRecDepth 10000
namespace Go.Proofs.YtmalklakaalaoaaDoor.Sw
open Go.RowKit Go.Sx
def decR (b : List UInt8) : (Int × Int × List OpD) × Int := match decode b with | none => ((0, 0, []), 1) | some p => (p, 0)
theorem rdOps_go {n : Int} {l : List OpD} {s : List UInt8 × Bool} (h0 : 0 < n) (h1 : s.2 = false) (h2 : l.length ≤ 8) : rdOps (10 - l.length) n l s = rdOps (10 - (l.length + 1)) (n - 1) (l ++ [(rdOp s).1]) (rdOp s).2 := by
  rw [show 10 - l.length = (10 - (l.length + 1)) + 1 by omega, rdOps, if_pos ⟨h0, h1, h2⟩]
theorem rdOps_stop {n : Int} {l : List OpD} {s : List UInt8 × Bool} (h : (decide (n > 0) && !s.2 && decide ((l.length : Int) ≤ 8)) = false) (f : Nat) : rdOps f n l s = (l, s) := by
  cases f with
  | zero => rfl
  | succ f =>
    rw [rdOps, if_neg]
    rintro ⟨h0, h1, h2⟩
    rw [h1] at h
    simp at h
    omega
structure DecS where
  n : Int
  v : Value
  l : List OpD
  sv : Value
  s : List UInt8 × Bool
set_option maxRecDepth 10000 in
set_option maxHeartbeats 16000000 in
theorem op_Decode (b : List UInt8) (sv : Value) (w : World) (hb : b.length ≤ 1000000) (r : RdB w sv b) (hT : Tabs w) :
    Calls Tryd.prog 26 ⟨[sv]⟩ w fun e w' => ∃ ad cap, e = .returned (.tuple #[.agg ⟨[.int .i64 (decR b).1.1, .int .i64 (decR b).1.2.1, .slice ad (decR b).1.2.2.length cap]⟩, .int .i64 (decR b).2]) ∧ Has 0 w w' (Sx.Own 38 9 (.slice ad (decR b).1.2.2.length cap) (decR b).1.2.2.length ((decR b).1.2.2.flatMap opCells) :: Old w 0 :: []) := by
  have hw := Has.start (G := 0) (w := w) (Nat.zero_le _)
  have hok := parse_ok b hb
  obtain ⟨sad, scap, rfl⟩ : ∃ ad cap, sv = .slice ad b.length cap := by obtain ⟨_, ad, cap, e, _⟩ := r; exact ⟨ad, cap, e⟩
  refine enter Tryd.func26 Tryd.ntmps26 rfl rfl fun a hs => ?_
  repeat (first | (refine sxv hs hw ?_; clear hs; intro a hs) | refine sxc hs ?_ | (refine sxa hs hw ?_; clear hs hw; intro a b W hw hs) | (refine sxs hs hw ?_; clear hs hw; intro W hs hw))
  obtain ⟨bp, q1⟩ := nm1 hw; subst q1
  obtain ⟨b0, q2⟩ := nm2 hw; subst q2
  have hw : Has 0 w _ (Cells bp [.slice sad b.length scap, .bool (b, false).2] 109 :: Cells b0 [.int .i64 0, .int .i64 0, .slice none 0 0] 29 :: Old w 0 :: []) := hw
  refine st_call hs (hc := op_num w _ bp _ (b, false) _ (In.tl In.hd) r hw) (k := ?_); rintro e0 W1 ⟨rfl, sv1, r1, hw'⟩; refine ⟨_, rfl, ?_⟩; clear hs hw; intro a hs
  have hw := hw'; clear hw'
  rw [show tk (b, false) (Ph.getI (b, false).1).2.1 (Ph.getI (b, false).1).2.2 = rdNum (b, false) from rfl] at hw r1
  repeat (first | (refine sxv hs hw ?_; clear hs; intro a hs) | refine sxc hs ?_ | (refine sxa hs hw ?_; clear hs hw; intro a b W hw hs) | (refine sxs hs hw ?_; clear hs hw; intro W hs hw))
  obtain ⟨bx, q3⟩ := nm1 hw; subst q3
  have hw := hw.swap2
  refine st_call hs (hc := op_num w _ bp sv1 (rdNum (b, false)) _ (In.tl (In.tl In.hd)) r1 hw) (k := ?_); rintro e0 W1 ⟨rfl, sv2, r2, hw'⟩; refine ⟨_, rfl, ?_⟩; clear hs hw; intro a hs
  have hw := hw'; clear hw'
  rw [show tk (rdNum (b, false)) (Ph.getI (rdNum (b, false)).1).2.1 (Ph.getI (rdNum (b, false)).1).2.2 = rdNum (rdNum (b, false)) from rfl] at hw r2
  repeat (first | (refine sxv hs hw ?_; clear hs; intro a hs) | refine sxc hs ?_ | (refine sxa hs hw ?_; clear hs hw; intro a b W hw hs) | (refine sxs hs hw ?_; clear hs hw; intro W hs hw))
  refine st_call hs (hc := op_num w _ bp sv2 (rdNum (rdNum (b, false))) _ (In.tl (In.tl In.hd)) r2 hw) (k := ?_); rintro e0 W1 ⟨rfl, sv3, r3, hw'⟩; refine ⟨_, rfl, ?_⟩; clear hs hw; intro a hs
  have hw := hw'; clear hw'
  rw [show tk (rdNum (rdNum (b, false))) (Ph.getI (rdNum (rdNum (b, false))).1).2.1 (Ph.getI (rdNum (rdNum (b, false))).1).2.2 = rdNum (rdNum (rdNum (b, false))) from rfl] at hw r3
  repeat (first | (refine sxv hs hw ?_; clear hs; intro a hs) | refine sxc hs ?_ | (refine sxa hs hw ?_; clear hs hw; intro a b W hw hs) | (refine sxs hs hw ?_; clear hs hw; intro W hs hw))
  have hN := getI_range (rdNum (rdNum (b, false))).1
  have hdec : parse b = (((Ph.getI (b, false).1).1, (Ph.getI (rdNum (b, false)).1).1, (rdOps 10 (Ph.getI (rdNum (rdNum (b, false))).1).1 [] (rdNum (rdNum (rdNum (b, false))))).1), (rdOps 10 (Ph.getI (rdNum (rdNum (b, false))).1).1 [] (rdNum (rdNum (rdNum (b, false))))).2) := rfl
  clear r1 r2
  generalize (Ph.getI (rdNum (rdNum (b, false))).1).1 = N at *
  generalize rdNum (rdNum (rdNum (b, false))) = s3 at *
  generalize (Ph.getI (rdNum (b, false)).1).1 = q at *
  generalize (Ph.getI (b, false).1).1 = c at *
  replace hw := (hw.nilOwn 38 9).swap2
  have hw : Has 0 w W1 (Cells bp [sv3, .bool s3.2] 109 :: Sx.Own 38 9 (.slice none 0 0) ([] : List OpD).length (([] : List OpD).flatMap opCells) :: Cells bx [.int .i64 c, .int .i64 q, .slice none 0 0] 29 :: Cells b0 [.int .i64 0, .int .i64 0, .slice none 0 0] 29 :: Old w 0 :: []) := hw
  refine st_loop (σ := DecS) (fun t => [(0, .slice sad b.length scap), (2, .pointer (some ⟨b0, 0, none⟩)), (4, .pointer (some ⟨bp, 0, none⟩)), (5, .pointer (some ⟨bx, 0, none⟩)), (6, .int .i64 t.n)])
    (fun t => Cells bp [t.sv, .bool t.s.2] 109 :: Sx.Own 38 9 t.v t.l.length (t.l.flatMap opCells) :: Cells bx [.int .i64 c, .int .i64 q, t.v] 29 :: Cells b0 [.int .i64 0, .int .i64 0, .slice none 0 0] 29 :: Old w 0 :: [])
    (fun t => RdB w t.sv t.s.1 ∧ i64 t.n ∧ t.l.length ≤ 9 ∧ rdOps (10 - t.l.length) t.n t.l t.s = rdOps 10 N [] s3) (fun t => 10 - t.l.length) ⟨N, .slice none 0 0, [], sv3, s3⟩ ⟨r3, hN, by simp, rfl⟩ hs ⟨rfl, rfl, rfl, rfl, rfl, trivial⟩ hw ?_
  clear hs hw r3 hN
  rintro ⟨n, v, l, sv, s⟩ a W ⟨hr, hn, hl, hrd⟩ hs hw
  simp only at hr hn hl hrd hs hw
  obtain ⟨vad, vcap, rfl⟩ : ∃ ad cap, v = .slice ad l.length cap := by
    obtain ⟨_, ad, cap, e, _⟩ := hw.rd_own (In.tl In.hd); exact ⟨ad, cap, e⟩
  refine sq ?_
  refine sq ?_
  refine merge (M := fun a W => Slots a 61 [(0, .slice sad b.length scap), (2, .pointer (some ⟨b0, 0, none⟩)), (4, .pointer (some ⟨bp, 0, none⟩)), (5, .pointer (some ⟨bx, 0, none⟩)), (6, .int .i64 n), (33, .bool (decide (n > 0) && !s.2 && decide ((l.length : Int) ≤ 8)))] ∧ Has 0 w W (Cells bp [sv, .bool s.2] 109 :: Sx.Own 38 9 (.slice vad l.length vcap) l.length (l.flatMap opCells) :: Cells bx [.int .i64 c, .int .i64 q, .slice vad l.length vcap] 29 :: Cells b0 [.int .i64 0, .int .i64 0, .slice none 0 0] 29 :: Old w 0 :: [])) ?_ ?_
  · repeat (first | (refine sxv hs hw ?_; clear hs; intro a hs) | refine sxc hs ?_ | (refine sxa hs hw ?_; clear hs hw; intro a b W hw hs) | (refine sxs hs hw ?_; clear hs hw; intro W hs hw))
    cases k0 : decide (n > 0) with
    | false =>
      rw [k0] at hs
      repeat (first | (refine sxv hs hw ?_; clear hs; intro a hs) | refine sxc hs ?_ | (refine sxa hs hw ?_; clear hs hw; intro a b W hw hs) | (refine sxs hs hw ?_; clear hs hw; intro W hs hw))
      exact ⟨hs.of ⟨rfl, rfl, rfl, rfl, rfl, rfl, trivial⟩, hw⟩
    | true =>
    rw [k0] at hs
    repeat (first | (refine sxv hs hw ?_; clear hs; intro a hs) | refine sxc hs ?_ | (refine sxa hs hw ?_; clear hs hw; intro a b W hw hs) | (refine sxs hs hw ?_; clear hs hw; intro W hs hw))
    cases k1 : s.2 with
    | true =>
      rw [k1] at hs hw
      repeat (first | (refine sxv hs hw ?_; clear hs; intro a hs) | refine sxc hs ?_ | (refine sxa hs hw ?_; clear hs hw; intro a b W hw hs) | (refine sxs hs hw ?_; clear hs hw; intro W hs hw))
      exact ⟨hs.of ⟨rfl, rfl, rfl, rfl, rfl, rfl, trivial⟩, hw⟩
    | false =>
    rw [k1] at hs hw
    repeat (first | (refine sxv hs hw ?_; clear hs; intro a hs) | refine sxc hs ?_ | (refine sxa hs hw ?_; clear hs hw; intro a b W hw hs) | (refine sxs hs hw ?_; clear hs hw; intro W hs hw))
    exact ⟨hs.of ⟨rfl, rfl, rfl, rfl, rfl, bool_eq (by simp), trivial⟩, hw⟩
  clear hs hw
  rintro a W ⟨hs, hw⟩
  refine cd_split hs (kt := fun hcc => ?_) (kf := fun hcc => ?_)
  · obtain ⟨h0, h1, h2⟩ : 0 < n ∧ s.2 = false ∧ l.length ≤ 8 := by
      simp only [Bool.and_eq_true, decide_eq_true_eq, Bool.not_eq_true'] at hcc
      exact ⟨by omega, hcc.1.2, by omega⟩
    rw [rdOps_go h0 h1 h2] at hrd
    replace hs : Slots a 61 [(0, .slice sad b.length scap), (2, .pointer (some ⟨b0, 0, none⟩)), (4, .pointer (some ⟨bp, 0, none⟩)), (5, .pointer (some ⟨bx, 0, none⟩)), (6, .int .i64 n)] := hs.of ⟨rfl, rfl, rfl, rfl, rfl, trivial⟩
    repeat (first | (refine sxv hs hw ?_; clear hs; intro a hs) | refine sxc hs ?_ | (refine sxa hs hw ?_; clear hs hw; intro a b W hw hs) | (refine sxs hs hw ?_; clear hs hw; intro W hs hw))
    have hw : Has 0 w W (Cells bp [sv, .bool s.2] 109 :: Sx.Own 38 9 (.slice vad l.length vcap) l.length (l.flatMap opCells) :: Free :: Free :: Cells bx [.int .i64 c, .int .i64 q, .slice vad l.length vcap] 29 :: Cells b0 [.int .i64 0, .int .i64 0, .slice none 0 0] 29 :: Old w 0 :: []) := hw.free.free.perm (((List.Perm.cons _ (List.Perm.swap _ _ _)).trans (List.Perm.swap _ _ _)).trans (List.Perm.cons _ ((List.Perm.cons _ (List.Perm.swap _ _ _)).trans (List.Perm.swap _ _ _))))
    refine rg_drawU (σ := Value × Option Addr × Nat) (V := fun u => [.pointer (some ⟨bx, 0 + 2, none⟩), .slice vad l.length vcap, .pointer (some ⟨bp, 0, none⟩), .agg ⟨opCells (rdOp s).1⟩, .slice (some ⟨(u 4).2.2, 0, none⟩) 1 1, .slice (u 5).2.1 (l.length + 1) (u 5).2.2, .pointer (some ⟨bx, 0 + 2, none⟩), .bool true])
      (Rs := fun u D => (if D 3 then Cells bp [(u 3).1, .bool (rdOp s).2.2] 109 else Cells bp [sv, .bool s.2] 109) :: (if D 5 then Sx.Own 38 9 (.slice (u 5).2.1 (l.length + 1) (u 5).2.2) (l.length + 1) (l.flatMap opCells ++ opCells (rdOp s).1) else Sx.Own 38 9 (.slice vad l.length vcap) l.length (l.flatMap opCells)) :: (if D 4 then Cells (u 4).2.2 (opCells (rdOp s).1) 38 else Free) :: (if D 3 then Fact (RdB w (u 3).1 (rdOp s).2.1) else Free) :: (if D 7 then Cells bx [.int .i64 c, .int .i64 q, .slice (u 5).2.1 (l.length + 1) (u 5).2.2] 29 else Cells bx [.int .i64 c, .int .i64 q, .slice vad l.length vcap] 29) :: Cells b0 [.int .i64 0, .int .i64 0, .slice none 0 0] 29 :: Old w 0 :: []) (fun _ => (.bool true, none, 0)) hs hw (hVu := ?vu_c) (ho := ⟨?_, ?c1_c, ?_, ?c3_c, ?c4_c, ?c5_c, ?_, ?c7_c, trivial⟩) (k := ?k_c)
    case vu_c =>
      intro u u' j h
      rcases j with _ | _ | _ | _ | _ | _ | j
      all_goals first | rfl | simp [h]
    case c1_c =>
      intro u LD D a W hcl hi hp hs hw
      have h5 := Go.Sx.not_done hcl hi 5 (by kernel_rfl)
      have h7 := Go.Sx.not_done hcl h5 7 (by kernel_rfl)
      have hw0 := hw
      simp only [h7, Bool.false_eq_true, if_false] at hw
      repeat (first | (refine sxv hs hw ?_; clear hs; intro a hs) | refine sxc hs ?_ | (refine sxa hs hw ?_; clear hs hw; intro a b W hw hs) | (refine sxs hs hw ?_; clear hs hw; intro W hs hw))
      exact Or.inl ⟨hs, hw0⟩
    case c3_c =>
      intro u LD D a W hcl hi hp hs hw
      have h4 := Go.Sx.not_done hcl hi 4 (by kernel_rfl)
      have h5 := Go.Sx.not_done hcl h4 5 (by kernel_rfl)
      have h7 := Go.Sx.not_done hcl h5 7 (by kernel_rfl)
      simp only [hi, h4, h5, h7, Bool.false_eq_true, if_false] at hw
      refine st_call hs (hc := op_op w _ bp sv s _ (by repeat (first | exact In.hd | apply In.tl)) hr hT hw) (k := ?_); rintro e0 W1 ⟨rfl, sv2, r2, hw'⟩; refine ⟨_, rfl, ?_⟩; clear hs hw; intro a hs
      repeat (first | (refine sxv hs hw ?_; clear hs; intro a hs) | refine sxc hs ?_ | (refine sxa hs hw ?_; clear hs hw; intro a b W hw hs) | (refine sxs hs hw ?_; clear hs hw; intro W hs hw))
      refine Or.inr ⟨(sv2, none, 0), hs, ?_⟩
      show Has 0 w _ (_ :: (if (Nat.beq 5 3 || D 5) = true then _ else _) :: (if (Nat.beq 4 3 || D 4) = true then _ else _) :: _ :: (if (Nat.beq 7 3 || D 7) = true then _ else _) :: _)
      rw [h4, h5, h7]
      exact (hw'.fact r2).fill (Upd.tl (Upd.tl (Upd.tl Upd.hd)))
    case c4_c =>
      intro u LD D a W hcl hi hp hs hw
      have h3 := Go.Sx.done hp 3 (by kernel_rfl)
      have h5 := Go.Sx.not_done hcl hi 5 (by kernel_rfl)
      have h7 := Go.Sx.not_done hcl h5 7 (by kernel_rfl)
      simp only [hi, h3, h5, h7, Bool.false_eq_true, if_false, if_true] at hw
      repeat (first | (refine sxv hs hw ?_; clear hs; intro a hs) | refine sxc hs ?_ | (refine sxa hs hw ?_; clear hs hw; intro a b W hw hs) | (refine sxs hs hw ?_; clear hs hw; intro W hs hw))
      refine Or.inr ⟨(.bool true, none, _), hs, ?_⟩
      show Has 0 w _ ((if (Nat.beq 3 4 || D 3) = true then _ else _) :: (if (Nat.beq 5 4 || D 5) = true then _ else _) :: _ :: (if (Nat.beq 3 4 || D 3) = true then _ else _) :: (if (Nat.beq 7 4 || D 7) = true then _ else _) :: _)
      rw [h3, h5, h7]
      exact hw.fill (Upd.tl (Upd.tl Upd.hd))
    case c5_c =>
      intro u LD D a W hcl hi hp hs hw
      have h4 := Go.Sx.done hp 4 (by kernel_rfl)
      have h7 := Go.Sx.not_done hcl hi 7 (by kernel_rfl)
      simp only [hi, h4, h7, Bool.false_eq_true, if_false, if_true] at hw
      refine st_append_lit hs hw (k := l.length) (h63 := by omega) (hb := by omega) (c := ?_)
      clear hs hw; intro a ad cap W hs hw
      repeat (first | (refine sxv hs hw ?_; clear hs; intro a hs) | refine sxc hs ?_ | (refine sxa hs hw ?_; clear hs hw; intro a b W hw hs) | (refine sxs hs hw ?_; clear hs hw; intro W hs hw))
      refine Or.inr ⟨(.bool true, ad, cap), hs, ?_⟩
      show Has 0 w _ (_ :: _ :: (if (Nat.beq 4 5 || D 4) = true then _ else _) :: _ :: (if (Nat.beq 7 5 || D 7) = true then _ else _) :: _)
      rw [h4, h7]
      exact hw
    case c7_c =>
      intro u LD D a W hcl hi hp hs hw
      have h5 := Go.Sx.done hp 5 (by kernel_rfl)
      simp only [hi, h5, Bool.false_eq_true, if_false, if_true] at hw
      repeat (first | (refine sxv hs hw ?_; clear hs; intro a hs) | refine sxc hs ?_ | (refine sxa hs hw ?_; clear hs hw; intro a b W hw hs) | (refine sxs hs hw ?_; clear hs hw; intro W hs hw))
      refine Or.inl ⟨hs, ?_⟩
      show Has 0 w _ (_ :: (if (Nat.beq 5 7 || D 5) = true then _ else _) :: _ :: _ :: _ :: _)
      rw [h5]
      exact hw
    case k_c =>
      clear hs hw
      intro u a W hs hw
      replace hw : Has 0 w W (Cells bp [(u 3).1, .bool (rdOp s).2.2] 109 :: Sx.Own 38 9 (.slice (u 5).2.1 (l.length + 1) (u 5).2.2) (l.length + 1) (l.flatMap opCells ++ opCells (rdOp s).1) :: Cells (u 4).2.2 (opCells (rdOp s).1) 38 :: Fact (RdB w (u 3).1 (rdOp s).2.1) :: Cells bx [.int .i64 c, .int .i64 q, .slice (u 5).2.1 (l.length + 1) (u 5).2.2] 29 :: Cells b0 [.int .i64 0, .int .i64 0, .slice none 0 0] 29 :: Old w 0 :: []) := hw
      have hr' := hw.told (In.tl (In.tl (In.tl In.hd)))
      replace hw := hw.sub (L' := Cells bp [(u 3).1, .bool (rdOp s).2.2] 109 :: Sx.Own 38 9 (.slice (u 5).2.1 (l.length + 1) (u 5).2.2) (l.length + 1) (l.flatMap opCells ++ opCells (rdOp s).1) :: Cells bx [.int .i64 c, .int .i64 q, .slice (u 5).2.1 (l.length + 1) (u 5).2.2] 29 :: Cells b0 [.int .i64 0, .int .i64 0, .slice none 0 0] 29 :: Old w 0 :: []) (List.Sublist.cons_cons _ (List.Sublist.cons_cons _ (List.Sublist.cons _ (List.Sublist.cons _ (List.Sublist.refl _)))))
      replace hs : Slots a 61 [(0, .slice sad b.length scap), (2, .pointer (some ⟨b0, 0, none⟩)), (4, .pointer (some ⟨bp, 0, none⟩)), (5, .pointer (some ⟨bx, 0, none⟩)), (6, .int .i64 n)] := hs.of ⟨rfl, rfl, rfl, rfl, rfl, trivial⟩
      generalize (u 3).1 = sv2 at *
      generalize (u 5).2.1 = ad2 at *
      generalize (u 5).2.2 = cap2 at *
      clear u
      repeat (first | (refine sxv hs hw ?_; clear hs; intro a hs) | refine sxc hs ?_ | (refine sxa hs hw ?_; clear hs hw; intro a b W hw hs) | (refine sxs hs hw ?_; clear hs hw; intro W hs hw))
      have e1 : IntKind.i64.wrap (n - 1) = n - 1 := i64s (by have := hn.1; omega) (by have := hn.2; omega)
      rw [e1] at hs
      have e2 : l.length + 1 = (l ++ [(rdOp s).1]).length := by simp
      have e3 : l.flatMap opCells ++ opCells (rdOp s).1 = (l ++ [(rdOp s).1]).flatMap opCells := by simp
      rw [e2, e3] at hw
      rw [e2] at hrd
      exact st_again ⟨n - 1, _, l ++ [(rdOp s).1], sv2, (rdOp s).2⟩ hs hw ⟨hr', ⟨by have := hn.1; show _ ≤ n - 1; omega, by have := hn.2; show n - 1 ≤ _; omega⟩, by simp; omega, hrd⟩ (by simp only [List.length_append, List.length_singleton]; omega) ⟨rfl, rfl, rfl, rfl, rfl, trivial⟩
    all_goals
      intro u LD D a W hcl hi hp hs hw
      repeat (first | (refine sxv hs hw ?_; clear hs; intro a hs) | refine sxc hs ?_ | (refine sxa hs hw ?_; clear hs hw; intro a b W hw hs) | (refine sxs hs hw ?_; clear hs hw; intro W hs hw))
      exact Or.inl ⟨hs, hw⟩
  · rw [rdOps_stop hcc] at hrd
    rw [← hrd] at hdec
    clear hrd
    rw [hdec] at hok
    obtain ⟨hc, hq, -, ho⟩ := hok
    simp only at hc hq ho
    have hD : ∀ p : Prop, (s.2 = false ∧ mayBatch c q l = true ∧ textB c q l = b ↔ p) → ((p → decR b = ((c, q, l), 0)) ∧ (¬ p → decR b = ((0, 0, []), 1))) := fun p hp => by
      constructor
      · intro h
        have : decode b = some (c, q, l) := by unfold decode; simp only [hdec]; rw [if_pos (hp.2 h)]
        unfold decR; rw [this]
      · intro h
        have : decode b = none := by unfold decode; simp only [hdec]; rw [if_neg fun k => h (hp.1 k)]
        unfold decR; rw [this]
    have hZ := (hD _ Iff.rfl).2
    have hY := (hD _ Iff.rfl).1
    clear hD hdec
    repeat (first | (refine sxv hs hw ?_; clear hs; intro a hs) | refine sxc hs ?_ | (refine sxa hs hw ?_; clear hs hw; intro a b W hw hs) | (refine sxs hs hw ?_; clear hs hw; intro W hs hw))
    refine st_call hs (hc := op_Encode c q l _ _ hc hq ho (hw.rd_own (In.tl In.hd)) (hT.keep (hw.end (by repeat (first | exact In.hd | apply In.tl))))) (k := ?_); rintro e0 W1 ⟨ad, cap, rfl, hnil, hw1⟩; refine ⟨_, rfl, ?_⟩; clear hs; intro a hs; replace hw := hw.call hw1; clear hw1
    repeat (first | (refine sxv hs hw ?_; clear hs; intro a hs) | refine sxc hs ?_ | (refine sxa hs hw ?_; clear hs hw; intro a b W hw hs) | (refine sxs hs hw ?_; clear hs hw; intro W hs hw))
    cases k1 : s.2 with
    | true =>
      rw [k1] at hs hw
      repeat (first | (refine sxv hs hw ?_; clear hs; intro a hs) | refine sxc hs ?_ | (refine sxa hs hw ?_; clear hs hw; intro a b W hw hs) | (refine sxs hs hw ?_; clear hs hw; intro W hs hw))
      refine rc2 hs rfl rfl hw (In.tl (In.tl (In.tl (In.tl In.hd)))) rfl rfl ?_
      rw [hZ (by rw [k1]; simp)]
      exact ⟨none, 0, rfl, (hw.nilOwn 38 9).sub (List.Sublist.cons_cons _ (List.Sublist.cons _ (List.Sublist.cons _ (List.Sublist.cons _ (List.Sublist.cons _ (List.Sublist.cons _ (List.Sublist.refl _)))))))⟩
    | false =>
    rw [k1] at hs hw
    repeat (first | (refine sxv hs hw ?_; clear hs; intro a hs) | refine sxc hs ?_ | (refine sxa hs hw ?_; clear hs hw; intro a b W hw hs) | (refine sxs hs hw ?_; clear hs hw; intro W hs hw))
    cases hm : mayBatch c q l with
    | false =>
      obtain ⟨rfl, rfl⟩ := hnil hm
      refine st_eqnil hs (c := ?_); clear hs; intro a hs
      repeat (first | (refine sxv hs hw ?_; clear hs; intro a hs) | refine sxc hs ?_ | (refine sxa hs hw ?_; clear hs hw; intro a b W hw hs) | (refine sxs hs hw ?_; clear hs hw; intro W hs hw))
      refine rc2 hs rfl rfl hw (In.tl (In.tl (In.tl (In.tl In.hd)))) rfl rfl ?_
      rw [hZ (by rw [hm]; simp)]
      exact ⟨none, 0, rfl, (hw.nilOwn 38 9).sub (List.Sublist.cons_cons _ (List.Sublist.cons _ (List.Sublist.cons _ (List.Sublist.cons _ (List.Sublist.cons _ (List.Sublist.cons _ (List.Sublist.refl _)))))))⟩
    | true =>
    rw [hm] at hs hw
    simp only [if_true] at hs hw
    obtain ⟨A, rfl⟩ : ∃ A, ad = some A := by
      obtain ⟨_, ad', cap', e, _, _, h | ⟨g, o, h, _⟩⟩ := hw.rd_own In.hd
      · have := textB_pos c q l; omega
      · injection e with e1 _ _; exact ⟨_, e1.trans h⟩
    refine st_eqnil hs (c := ?_); clear hs; intro a hs
    rw [show (some A).isNone = false from rfl] at hs
    repeat (first | (refine sxv hs hw ?_; clear hs; intro a hs) | refine sxc hs ?_ | (refine sxa hs hw ?_; clear hs hw; intro a b W hw hs) | (refine sxs hs hw ?_; clear hs hw; intro W hs hw))
    refine st_call hs (hc := bytes_Equal (textB c q l) b _ _ _ (hw.rd_own In.hd) (hw.rd (by repeat (first | exact In.hd | apply In.tl)) hw.ext.size r)) (k := ?_); rintro e0 W1 ⟨rfl, hb⟩; refine ⟨_, rfl, ?_⟩; clear hs; intro a hs; replace hw := hw.below hb; clear hb
    cases he : (textB c q l == b) with
    | false =>
      rw [he] at hs
      repeat (first | (refine sxv hs hw ?_; clear hs; intro a hs) | refine sxc hs ?_ | (refine sxa hs hw ?_; clear hs hw; intro a b W hw hs) | (refine sxs hs hw ?_; clear hs hw; intro W hs hw))
      refine rc2 hs rfl rfl hw (In.tl (In.tl (In.tl (In.tl In.hd)))) rfl rfl ?_
      rw [hZ (by rw [beq_eq_false_iff_ne] at he; exact fun h => he h.2.2)]
      exact ⟨none, 0, rfl, (hw.nilOwn 38 9).sub (List.Sublist.cons_cons _ (List.Sublist.cons _ (List.Sublist.cons _ (List.Sublist.cons _ (List.Sublist.cons _ (List.Sublist.cons _ (List.Sublist.refl _)))))))⟩
    | true =>
      rw [he] at hs
      repeat (first | (refine sxv hs hw ?_; clear hs; intro a hs) | refine sxc hs ?_ | (refine sxa hs hw ?_; clear hs hw; intro a b W hw hs) | (refine sxs hs hw ?_; clear hs hw; intro W hs hw))
      refine rc2 hs rfl rfl hw (In.tl (In.tl (In.tl (In.tl In.hd)))) rfl rfl ?_
      rw [hY ⟨k1, hm, by simpa using he⟩]
      exact ⟨_, _, rfl, hw.sub (List.Sublist.cons _ (List.Sublist.cons _ (List.Sublist.cons_cons _ (List.Sublist.cons _ (List.Sublist.cons _ (List.Sublist.refl _))))))⟩
end Go.Proofs.YtmalklakaalaoaaDoor.Sw

set_option linter.unusedVariables false
set_option maxRecDepth 10000
namespace Go.Sx
end Go.Sx

set_option linter.unusedVariables false
set_option maxRecDepth 10000
namespace Go.Proofs.YtmalklakaalaoaaDoor.Sw
open Go.RowKit Go.Sx
-- pieces
theorem op_DecodeR (b : List UInt8) (c q : Int) (l : List OpD) (err : Int) (h : decR b = ((c, q, l), err)) (sv : Value) (w : World) (hb : b.length ≤ 1000000) (r : RdB w sv b) (hT : Tabs w) :
    Calls Tryd.prog 26 ⟨[sv]⟩ w fun e w' => ∃ ad cap, e = .returned (.tuple #[.agg ⟨[.int .i64 c, .int .i64 q, .slice ad l.length cap]⟩, .int .i64 err]) ∧ Has 0 w w' (Sx.Own 38 9 (.slice ad l.length cap) l.length (l.flatMap opCells) :: Old w 0 :: []) := by
  have := op_Decode b sv w hb r hT
  rw [h] at this
  exact this
end Go.Proofs.YtmalklakaalaoaaDoor.Sw

set_option linter.unusedVariables false
set_option maxRecDepth 10000
namespace Go.Proofs.YtmalklakaalaoaaDoor.Sw
open Go.RowKit Go.Sx
theorem fold_read {place : Int} {d : Dm} {s : List UInt8 × Bool} {r : List (Int × RowD) × (List UInt8 × Bool)} (hr : rdTold place 5 1 s (List.replicate 6 (0, zeroRow)) [] = some r) (hl : s.1.length ≤ 1000000) (hd : DocFine d) (hp : 0 ≤ place ∧ place ≤ 9223372036854775807) : FoldFine ⟨place, d, r.1⟩ := by
  obtain ⟨pl, hi⟩ := rdTold_some 5 1 _ _ [] _ hr (by decide) (by decide) hl ⟨by simp, fun i x hx => by
    have := List.eq_of_mem_replicate (List.mem_of_getElem? hx); exact .inl this, fun i i' x x' hx _ h0 => by
    have := List.eq_of_mem_replicate (List.mem_of_getElem? hx); rw [this] at h0; exact absurd rfl h0, fun i x hx h0 => by
    have := List.eq_of_mem_replicate (List.mem_of_getElem? hx); rw [this] at h0; exact absurd rfl h0⟩
  exact ⟨hd, hp, hi.six, fun c x hx => (hi.told c x hx).imp id fun ⟨a, _, e⟩ => ⟨a, e⟩, hi.dist⟩
structure RdS where
  c : Nat
  s : List UInt8 × Bool
  sv : Value
  told : List (Int × RowD)
  xs : List Value
  pl : List Int
  pad : Option Addr
  pcap : Nat
  H : Fh
def fdRes (H : Fh) (w0 : World) (R : List Res) (b : List UInt8) (e : Ending) (W' : World) : Prop :=
  ∃ H', H.le H' ∧ ((decF b = none ∧ e = .returned (.tuple ⟨[.pointer none, .int .i64 1]⟩) ∧ Has 0 w0 W' (Fz H' :: R)) ∨ ∃ f p, decF b = some f ∧ e = .returned (.tuple ⟨[.pointer (some ⟨p, 0, none⟩), .int .i64 0]⟩) ∧ Has 0 w0 W' (FoldAt H' p f :: Fz H' :: R))
set_option maxHeartbeats 64000000 in
theorem fold_Decode (w0 W : World) (H : Fh) (b : List UInt8) (v : Value) (R : List Res) (hl : b.length ≤ 100000) (r : RdH H 1 v b.length (bys b)) (hH : (fr w0).le H) (hT : Tabs w0) (hw : Has 0 w0 W (Fz H :: R)) :
    Calls Tryd.prog 11 ⟨[v]⟩ W (fdRes H w0 R b) := by
  obtain ⟨bad0, bcap0, rfl⟩ := r.slice
  have hgr := getI_range b
  refine enter Tryd.func11 Tryd.ntmps11 rfl rfl fun a hs => ?_
  repeat (first | (refine sxv hs hw ?_; clear hs; intro a hs) | refine sxc hs ?_ | (refine sxa hs hw ?_; clear hs hw; intro a b W hw hs) | (refine sxs hs hw ?_; clear hs hw; intro W hs hw) | ((with_reducible first | refine st_ptrSome hs (k := ?_) | refine st_ptrNone hs (k := ?_)); clear hs; intro a hs))
  obtain ⟨b4, q4⟩ := nm1 hw; subst q4
  refine st_call hs (hc := foldr_num w0 _ H b4 _ (b, false) _ In.hd r hw) (k := ?_); rintro e0 W1 ⟨sv1, rfl, hr1, hw1⟩; refine ⟨_, rfl, ?_⟩; clear hs hw; intro a hs; have hw := hw1; clear hw1
  have hl1 := rdNum_len (b, false)
  have hdecF : decF b = match decDoc (Ph.getT (rdNum (b, false)).1).1 with
    | none => none
    | some d => if (Ph.getI b).1 < 0 then none else match rdTold (Ph.getI b).1 5 1 (rdTxt (rdNum (b, false))) (List.replicate 6 (0, zeroRow)) [] with
      | none => none
      | some (told, s) => if s.2 = false ∧ foldB ⟨(Ph.getI b).1, d, told⟩ = b then some ⟨(Ph.getI b).1, d, told⟩ else none := rfl
  simp only at hl1 hs
  generalize rdNum (b, false) = s1 at *
  generalize (Ph.getI b).1 = place at *
  repeat (first | (refine sxv hs hw ?_; clear hs; intro a hs) | refine sxc hs ?_ | (refine sxa hs hw ?_; clear hs hw; intro a b W hw hs) | (refine sxs hs hw ?_; clear hs hw; intro W hs hw) | ((with_reducible first | refine st_ptrSome hs (k := ?_) | refine st_ptrNone hs (k := ?_)); clear hs; intro a hs))
  obtain ⟨p5, q5⟩ := nm1 hw; subst q5
  replace hw : Has 0 w0 _ (Cells b4 [sv1, .bool s1.2] 66 :: Cells p5 (.int .i64 place :: .pointer none :: (ztold ++ (ztold ++ (ztold ++ (ztold ++ (ztold ++ (ztold ++ []))))))) 61 :: Fz H :: R) := hw.swap2
  refine st_call hs (hc := foldr_text w0 _ H b4 _ s1 _ (In.tl In.hd) hr1 hw) (k := ?_); rintro e0 W1 ⟨sv2, rfl, hr2, hw1⟩; refine ⟨_, rfl, ?_⟩; clear hs hw; intro a hs; have hw := hw1; clear hw1
  have hl2 := rdTxt_len s1
  have hdl := getT_len s1.1
  generalize rdTxt s1 = s2 at *
  generalize (Ph.getT s1.1).1 = dt at *
  repeat (first | (refine sxv hs hw ?_; clear hs; intro a hs) | refine sxc hs ?_ | (refine sxa hs hw ?_; clear hs hw; intro a b W hw hs) | (refine sxs hs hw ?_; clear hs hw; intro W hs hw) | ((with_reducible first | refine st_ptrSome hs (k := ?_) | refine st_ptrNone hs (k := ?_)); clear hs; intro a hs))
  refine st_bytes (s := ⟨dt.toArray⟩) hs hw (by show dt.toArray.size ≤ _; simp; omega) (c := ?_); clear hs hw; intro a bd cap4 ext4 W hw hr4 hs
  have hr4 : Rd W 1 (.slice (some ⟨bd, 0, none⟩) dt.length cap4) dt.length (bys dt) := hr4
  have hs : Slots a 129 ((24, .slice (some ⟨bd, 0, none⟩) dt.length cap4) :: _) := hs
  replace hw : Has 0 w0 W (CellsM bd (bys dt ++ ext4) 5 :: Fz H :: Cells b4 [sv2, .bool s2.2] 66 :: Cells p5 (.int .i64 place :: .pointer none :: (ztold ++ (ztold ++ (ztold ++ (ztold ++ (ztold ++ (ztold ++ []))))))) 61 :: R) := hw.perm (by repeat (first | exact List.Perm.refl _ | refine perm_pick (by repeat (first | exact Pick.hd | apply Pick.tl)) ?_))
  obtain ⟨H1, hle1, hw2, hrd⟩ := hw.freezeM hr4
  clear hw; have hw := hw2; clear hw2
  have hH1 := hH.trans hle1
  refine st_call hs (hc := doc_Decode w0 _ H1 dt _ _ (by omega) hrd In.hd hH1 hT hw) (k := ?_); rintro e0 W1 (⟨hdd, rfl, hw1⟩ | ⟨d, pd, hdd, rfl, hw1⟩)
  · refine ⟨_, rfl, ?_⟩; clear hs hw; intro a hs; have hw := hw1; clear hw1
    repeat (first | (refine sxv hs hw ?_; clear hs; intro a hs) | refine sxc hs ?_ | (refine sxa hs hw ?_; clear hs hw; intro a b W hw hs) | (refine sxs hs hw ?_; clear hs hw; intro W hs hw) | ((with_reducible first | refine st_ptrSome hs (k := ?_) | refine st_ptrNone hs (k := ?_)); clear hs; intro a hs))
    exact rt2 hs rfl rfl rfl ⟨H1, hle1, .inl ⟨by rw [hdecF, hdd], rfl, hw.drop2.drop2⟩⟩
  refine ⟨_, rfl, ?_⟩; clear hs hw; intro a hs; have hw := hw1; clear hw1
  have hdf := (decDoc_some (by omega) hdd).2
  rw [hdd] at hdecF
  simp only at hdecF
  repeat (first | (refine sxv hs hw ?_; clear hs; intro a hs) | refine sxc hs ?_ | (refine sxa hs hw ?_; clear hs hw; intro a b W hw hs) | (refine sxs hs hw ?_; clear hs hw; intro W hs hw) | ((with_reducible first | refine st_ptrSome hs (k := ?_) | refine st_ptrNone hs (k := ?_)); clear hs; intro a hs))
  cases c0 : decide (place < 0) with
  | true =>
    rw [c0] at hs
    have g0 := of_decide_eq_true c0
    repeat (first | (refine sxv hs hw ?_; clear hs; intro a hs) | refine sxc hs ?_ | (refine sxa hs hw ?_; clear hs hw; intro a b W hw hs) | (refine sxs hs hw ?_; clear hs hw; intro W hs hw) | ((with_reducible first | refine st_ptrSome hs (k := ?_) | refine st_ptrNone hs (k := ?_)); clear hs; intro a hs))
    exact rt2 hs rfl rfl rfl ⟨H1, hle1, .inl ⟨by rw [hdecF, if_pos g0], rfl, hw.sub (List.Sublist.cons _ (List.Sublist.cons_cons _ (List.Sublist.cons _ (List.Sublist.cons _ (List.Sublist.refl _)))))⟩⟩
  | false =>
  rw [c0] at hs
  have g0 := of_decide_eq_false c0
  rw [if_neg g0] at hdecF
  repeat (first | (refine sxv hs hw ?_; clear hs; intro a hs) | refine sxc hs ?_ | (refine sxa hs hw ?_; clear hs hw; intro a b W hw hs) | (refine sxs hs hw ?_; clear hs hw; intro W hs hw) | ((with_reducible first | refine st_ptrSome hs (k := ?_) | refine st_ptrNone hs (k := ?_)); clear hs; intro a hs))
  generalize hRR : rdTold place 5 1 s2 (List.replicate 6 (0, zeroRow)) [] = RR at hdecF
  have noneF : RR = none → decF b = none := fun h => by rw [hdecF, h]
  replace hw : Has 0 w0 _ (Cells p5 (foldCells place pd (ztold ++ (ztold ++ (ztold ++ (ztold ++ (ztold ++ (ztold ++ []))))))) 61 :: DocAt pd d :: Cells b4 [sv2, .bool s2.2] 66 :: Fz H1 :: R) := hw.perm (by repeat (first | exact List.Perm.refl _ | refine perm_pick (by repeat (first | exact Pick.hd | apply Pick.tl)) ?_))
  replace hw := hw.nilOwn 2 1
  replace hw : Has 0 w0 _ (Cells p5 (foldCells place pd (ztold ++ (ztold ++ (ztold ++ (ztold ++ (ztold ++ (ztold ++ []))))))) 61 :: DocAt pd d :: Sx.Own 2 1 (.slice none 0 0) ([] : List Int).length (([] : List Int).map (Value.int .i64)) :: Cells b4 [sv2, .bool s2.2] 66 :: Fz H1 :: R) := hw.perm (by repeat (first | exact List.Perm.refl _ | refine perm_pick (by repeat (first | exact Pick.hd | apply Pick.tl)) ?_))
  refine st_loop (σ := RdS) (fun t => [(0, .slice bad0 b.length bcap0), (4, .pointer (some ⟨b4, 0, none⟩)), (5, .pointer (some ⟨p5, 0, none⟩)), (8, .slice t.pad t.pl.length t.pcap), (9, .int .i64 (t.c : Int))]) (fun t => Cells p5 (foldCells place pd t.xs) 61 :: DocAt pd d :: Sx.Own 2 1 (.slice t.pad t.pl.length t.pcap) t.pl.length (t.pl.map (Value.int .i64)) :: Cells b4 [t.sv, .bool t.s.2] 66 :: Fz t.H :: R) (fun t => 1 ≤ t.c ∧ t.c ≤ 6 ∧ H.le t.H ∧ RdH t.H 1 t.sv t.s.1.length (bys t.s.1) ∧ ToldOk t.H t.told t.xs ∧ t.pl.length ≤ t.c ∧ t.s.1.length ≤ 100000 ∧ rdTold place (6 - t.c) t.c t.s t.told t.pl = RR) (fun t => 6 - t.c) ⟨1, s2, sv2, List.replicate 6 (0, zeroRow), _, [], none, 0, H1⟩ ⟨by show 1 ≤ 1; decide, by show 1 ≤ 6; decide, hle1, RdH.le hr2 hle1, told_zero H1, by show 0 ≤ 1; decide, by show s2.1.length ≤ 100000; omega, hRR⟩ hs ⟨rfl, rfl, rfl, rfl, rfl, trivial⟩ hw ?_
  clear hs hw
  rintro ⟨c, s, sv, told, xs, pls, pad, pcap, H0⟩ a W ⟨hc1, hc6, hle0, hr0, htk, hpll0, hsl, hrd0⟩ hs hw
  simp only at hc1 hc6 hle0 hr0 htk hpll0 hsl hrd0 hs hw
  repeat (first | (refine sxv hs hw ?_; clear hs; intro a hs) | refine sxc hs ?_ | (refine sxa hs hw ?_; clear hs hw; intro a b W hw hs) | (refine sxs hs hw ?_; clear hs hw; intro W hs hw) | ((with_reducible first | refine st_ptrSome hs (k := ?_) | refine st_ptrNone hs (k := ?_)); clear hs; intro a hs))
  refine cd_split hs (kt := fun hcc => ?_) (kf := fun hcc => ?_)
  · have hc5 : c ≤ 5 := by have := of_decide_eq_true hcc; omega
    have hpll : pls.length ≤ 1000 := by omega
    rw [show 6 - c = (6 - (c + 1)) + 1 from by omega] at hrd0
    unfold rdTold at hrd0
    repeat (first | (refine sxv hs hw ?_; clear hs; intro a hs) | refine sxc hs ?_ | (refine sxa hs hw ?_; clear hs hw; intro a b W hw hs) | (refine sxs hs hw ?_; clear hs hw; intro W hs hw) | ((with_reducible first | refine st_ptrSome hs (k := ?_) | refine st_ptrNone hs (k := ?_)); clear hs; intro a hs))
    replace hw : Has 0 w0 _ (Cells b4 [sv, .bool s.2] 66 :: Cells p5 (foldCells place pd xs) 61 :: DocAt pd d :: Sx.Own 2 1 (.slice pad pls.length pcap) pls.length (pls.map (Value.int .i64)) :: Fz H0 :: R) := hw.perm (by repeat (first | exact List.Perm.refl _ | refine perm_pick (by repeat (first | exact Pick.hd | apply Pick.tl)) ?_))
    refine st_call hs (hc := foldr_num w0 _ H0 b4 _ s _ (In.tl (In.tl (In.tl In.hd))) hr0 hw) (k := ?_); rintro e0 W1 ⟨sv1', rfl, hr1', hw1⟩; refine ⟨_, rfl, ?_⟩; clear hs hw; intro a hs; have hw := hw1; clear hw1
    have l1 := rdNum_len s
    generalize (Ph.getI s.1).1 = seq at *
    generalize rdNum s = s1' at *
    by_cases hseq : seq = 0
    · subst hseq
      rw [if_pos rfl] at hrd0
      replace hw : Has 0 w0 _ (Cells p5 (foldCells place pd xs) 61 :: DocAt pd d :: Sx.Own 2 1 (.slice pad pls.length pcap) pls.length (pls.map (Value.int .i64)) :: Cells b4 [sv1', .bool s1'.2] 66 :: Fz H0 :: R) := hw.perm (by repeat (first | exact List.Perm.refl _ | refine perm_pick (by repeat (first | exact Pick.hd | apply Pick.tl)) ?_))
      repeat (first | (refine sxv hs hw ?_; clear hs; intro a hs) | refine sxc hs ?_ | (refine sxa hs hw ?_; clear hs hw; intro a b W hw hs) | (refine sxs hs hw ?_; clear hs hw; intro W hs hw) | ((with_reducible first | refine st_ptrSome hs (k := ?_) | refine st_ptrNone hs (k := ?_)); clear hs; intro a hs))
      exact st_again ⟨c + 1, s1', sv1', told, xs, pls, pad, pcap, H0⟩ hs hw ⟨by show 1 ≤ c + 1; omega, by show c + 1 ≤ 6; omega, hle0, hr1', htk, by show pls.length ≤ c + 1; omega, by show s1'.1.length ≤ 100000; omega, hrd0⟩ (by show 6 - (c + 1) < 6 - c; omega) ⟨rfl, rfl, rfl, rfl, int_eq (by show IntKind.i64.wrap ((c : Int) + 1) = ((c + 1 : Nat) : Int); rw [IntWalk.i64_in _ (by omega)]; omega), trivial⟩
    · rw [if_neg hseq] at hrd0
      have eseq : (seq == 0) = false := by simpa using hseq
      repeat (first | (refine sxv hs hw ?_; clear hs; intro a hs) | refine sxc hs ?_ | (refine sxa hs hw ?_; clear hs hw; intro a b W hw hs) | (refine sxs hs hw ?_; clear hs hw; intro W hs hw) | ((with_reducible first | refine st_ptrSome hs (k := ?_) | refine st_ptrNone hs (k := ?_)); clear hs; intro a hs))
      rw [eseq] at hs
      repeat (first | (refine sxv hs hw ?_; clear hs; intro a hs) | refine sxc hs ?_ | (refine sxa hs hw ?_; clear hs hw; intro a b W hw hs) | (refine sxs hs hw ?_; clear hs hw; intro W hs hw) | ((with_reducible first | refine st_ptrSome hs (k := ?_) | refine st_ptrNone hs (k := ?_)); clear hs; intro a hs))
      refine st_call hs (hc := foldr_num w0 _ H0 b4 _ s1' _ (In.tl (In.tl (In.tl In.hd))) hr1' hw) (k := ?_); rintro e0 W1 ⟨sv2', rfl, hr2', hw1⟩; refine ⟨_, rfl, ?_⟩; clear hs hw; intro a hs; have hw := hw1; clear hw1
      have l2 := rdNum_len s1'
      generalize (Ph.getI s1'.1).1 = pl at *
      generalize rdNum s1' = s2' at *
      repeat (first | (refine sxv hs hw ?_; clear hs; intro a hs) | refine sxc hs ?_ | (refine sxa hs hw ?_; clear hs hw; intro a b W hw hs) | (refine sxs hs hw ?_; clear hs hw; intro W hs hw) | ((with_reducible first | refine st_ptrSome hs (k := ?_) | refine st_ptrNone hs (k := ?_)); clear hs; intro a hs))
      obtain ⟨b11, q11⟩ := nm1 hw; subst q11
      replace hw : Has 0 w0 _ (Cells b4 [sv2', .bool s2'.2] 66 :: Cells b11 [.int .i64 pl, .int .i64 0, .int .i64 0, .slice none 0 0, .int .i64 0] 32 :: Cells p5 (foldCells place pd xs) 61 :: DocAt pd d :: Sx.Own 2 1 (.slice pad pls.length pcap) pls.length (pls.map (Value.int .i64)) :: Fz H0 :: R) := hw.perm (by repeat (first | exact List.Perm.refl _ | refine perm_pick (by repeat (first | exact Pick.hd | apply Pick.tl)) ?_))
      refine st_call hs (hc := foldr_text w0 _ H0 b4 _ s2' _ (In.tl (In.tl (In.tl (In.tl In.hd)))) hr2' hw) (k := ?_); rintro e0 W1 ⟨sv3, rfl, hr3, hw1⟩; refine ⟨_, rfl, ?_⟩; clear hs hw; intro a hs; have hw := hw1; clear hw1
      have l3 := rdTxt_len s2'
      have hxl := getT_len s2'.1
      generalize (Ph.getT s2'.1).1 = bt at *
      generalize rdTxt s2' = s3 at *
      repeat (first | (refine sxv hs hw ?_; clear hs; intro a hs) | refine sxc hs ?_ | (refine sxa hs hw ?_; clear hs hw; intro a b W hw hs) | (refine sxs hs hw ?_; clear hs hw; intro W hs hw) | ((with_reducible first | refine st_ptrSome hs (k := ?_) | refine st_ptrNone hs (k := ?_)); clear hs; intro a hs))
      refine st_bytes (s := ⟨bt.toArray⟩) hs hw (by show bt.toArray.size ≤ _; simp; omega) (c := ?_); clear hs hw; intro a be cap5 ext5 W hw hr5 hs
      have hr5 : RdB W (.slice (some ⟨be, 0, none⟩) bt.length cap5) bt := hr5
      have hs : Slots a 129 ((55, .slice (some ⟨be, 0, none⟩) bt.length cap5) :: _) := hs
      replace hw := hw.sub (List.Sublist.cons _ (List.Sublist.refl _))
      obtain ⟨⟨⟨xc, xq, xl⟩, err⟩, hdec⟩ : ∃ y, decR bt = y := ⟨_, rfl⟩
      refine st_call hs (hc := op_DecodeR bt xc xq xl err hdec _ _ (by omega) hr5 (hT.keep (hw.endF (In.tl (In.tl (In.tl (In.tl (In.tl In.hd))))) (hH.trans hle0)))) (k := ?_); rintro e0 W1 ⟨dad, dcap, rfl, hw1⟩; refine ⟨_, rfl, ?_⟩; clear hs; intro a hs; replace hw := hw.call hw1; clear hw1
      replace hw : Has 0 w0 _ (Sx.Own 38 9 (.slice dad xl.length dcap) xl.length (xl.flatMap opCells) :: Fz H0 :: Cells b4 [sv3, .bool s3.2] 66 :: Cells b11 [.int .i64 pl, .int .i64 0, .int .i64 0, .slice none 0 0, .int .i64 0] 32 :: Cells p5 (foldCells place pd xs) 61 :: DocAt pd d :: Sx.Own 2 1 (.slice pad pls.length pcap) pls.length (pls.map (Value.int .i64)) :: R) := hw.perm (by repeat (first | exact List.Perm.refl _ | refine perm_pick (by repeat (first | exact Pick.hd | apply Pick.tl)) ?_))
      obtain ⟨H3, hle03, hw2, hops⟩ := hw.freeze_own
      clear hw; have hw := hw2; clear hw2
      have hle3 := hle0.trans hle03
      have hr3' := RdH.le hr3 hle03
      have htk3 : ToldOk H3 told xs := ⟨htk.1, htk.2.mono (TolIn.le hle03)⟩
      repeat (first | (refine sxv hs hw ?_; clear hs; intro a hs) | refine sxc hs ?_ | (refine sxa hs hw ?_; clear hs hw; intro a b W hw hs) | (refine sxs hs hw ?_; clear hs hw; intro W hs hw) | ((with_reducible first | refine st_ptrSome hs (k := ?_) | refine st_ptrNone hs (k := ?_)); clear hs; intro a hs))
      obtain ⟨b12, q12⟩ := nm1 hw; subst q12
      replace hw : Has 0 w0 _ (Cells b4 [sv3, .bool s3.2] 66 :: Free :: Cells b11 [.int .i64 pl, .int .i64 0, .int .i64 0, .slice none 0 0, .int .i64 0] 32 :: Cells b12 (batCells ⟨xc, xq, xl⟩ (.slice dad xl.length dcap)) 29 :: Cells p5 (foldCells place pd xs) 61 :: DocAt pd d :: Sx.Own 2 1 (.slice pad pls.length pcap) pls.length (pls.map (Value.int .i64)) :: Fz H3 :: R) := hw.free.perm (by repeat (first | exact List.Perm.refl _ | refine perm_pick (by repeat (first | exact Pick.hd | apply Pick.tl)) ?_))
      have l4 := rdNum_len s3
      generalize hs4 : rdNum s3 = s4 at *
      generalize her : (Ph.getI s3.1).1 = er at *
      refine rg_drawU (σ := Value) (V := fun u => [.agg ⟨batCells ⟨xc, xq, xl⟩ (.slice dad xl.length dcap)⟩, .pointer (some ⟨b4, 0, none⟩), .int .i64 er, .pointer (some ⟨b11, 0 + 1, none⟩), undef, .pointer (some ⟨b11, 0 + 4, none⟩), undef])
        (Rs := fun u D => (if D 2 then Cells b4 [u 2, .bool s4.2] 66 else Cells b4 [sv3, .bool s3.2] 66) :: (if D 2 then Fact (RdH H3 1 (u 2) s4.1.length (bys s4.1)) else Free) :: Cells b11 [.int .i64 pl, (if D 4 then .int .i64 xc else .int .i64 0), (if D 4 then .int .i64 xq else .int .i64 0), (if D 4 then .slice dad xl.length dcap else .slice none 0 0), (if D 6 then .int .i64 er else .int .i64 0)] 32 :: Cells b12 (batCells ⟨xc, xq, xl⟩ (.slice dad xl.length dcap)) 29 :: Cells p5 (foldCells place pd xs) 61 :: DocAt pd d :: Sx.Own 2 1 (.slice pad pls.length pcap) pls.length (pls.map (Value.int .i64)) :: Fz H3 :: R) (fun _ => .nilIface) hs hw (hVu := fun _ _ _ _ => rfl) (ho := ⟨?c0_15, ?c1_15, ?c2_15, ?c3_15, ?c4_15, ?c5_15, ?c6_15, trivial⟩) (k := ?k_15)
      case c2_15 =>
        intro u LD D a W hcl hi hp hs hw
        have h6 := Go.Sx.not_done hcl hi 6 (by kernel_rfl)
        simp only [hi, h6, Bool.false_eq_true, if_false] at hw
        refine st_call hs (hc := foldr_num w0 _ H3 b4 _ s3 _ (In.tl (In.tl (In.tl (In.tl (In.tl (In.tl In.hd)))))) hr3' hw) (k := ?_); rintro e0 W1 ⟨sv4, rfl, hr4', hw1⟩; refine ⟨_, rfl, ?_⟩; clear hs hw; intro a hs; have hw := hw1; clear hw1
        rw [her] at hs
        rw [hs4] at hw hr4'
        repeat (first | (refine sxv hs hw ?_; clear hs; intro a hs) | refine sxc hs ?_ | (refine sxa hs hw ?_; clear hs hw; intro a b W hw hs) | (refine sxs hs hw ?_; clear hs hw; intro W hs hw) | ((with_reducible first | refine st_ptrSome hs (k := ?_) | refine st_ptrNone hs (k := ?_)); clear hs; intro a hs))
        refine Or.inr ⟨sv4, hs, ?_⟩
        show Has 0 w0 _ (_ :: _ :: Cells b11 [_, _, _, _, (if (Nat.beq 6 2 || D 6) = true then _ else _)] _ :: _)
        rw [h6]
        exact (hw.fact hr4').fill (Upd.tl Upd.hd)
      case c4_15 =>
        intro u LD D a W hcl hi hp hs hw
        simp only [hi, Bool.false_eq_true, if_false] at hw
        repeat (first | (refine sxv hs hw ?_; clear hs; intro a hs) | refine sxc hs ?_ | (refine sxa hs hw ?_; clear hs hw; intro a b W hw hs) | (refine sxs hs hw ?_; clear hs hw; intro W hs hw) | ((with_reducible first | refine st_ptrSome hs (k := ?_) | refine st_ptrNone hs (k := ?_)); clear hs; intro a hs))
        exact Or.inl ⟨hs, hw⟩
      case c6_15 =>
        intro u LD D a W hcl hi hp hs hw
        simp only [hi, Bool.false_eq_true, if_false] at hw
        repeat (first | (refine sxv hs hw ?_; clear hs; intro a hs) | refine sxc hs ?_ | (refine sxa hs hw ?_; clear hs hw; intro a b W hw hs) | (refine sxs hs hw ?_; clear hs hw; intro W hs hw) | ((with_reducible first | refine st_ptrSome hs (k := ?_) | refine st_ptrNone hs (k := ?_)); clear hs; intro a hs))
        exact Or.inl ⟨hs, hw⟩
      case c0_15 | c1_15 | c3_15 | c5_15 =>
        intro u LD D a W hcl hi hp hs hw
        repeat (first | (refine sxv hs hw ?_; clear hs; intro a hs) | refine sxc hs ?_ | (refine sxa hs hw ?_; clear hs hw; intro a b W hw hs) | (refine sxs hs hw ?_; clear hs hw; intro W hs hw) | ((with_reducible first | refine st_ptrSome hs (k := ?_) | refine st_ptrNone hs (k := ?_)); clear hs; intro a hs))
        exact Or.inl ⟨hs, hw⟩
      case k_15 =>
      clear hs hw
      intro u a W hs hw
      replace hw : Has 0 w0 W (Cells b4 [u 2, .bool s4.2] 66 :: Fact (RdH H3 1 (u 2) s4.1.length (bys s4.1)) :: Cells b11 (rowCells ⟨pl, ⟨xc, xq, xl⟩, er⟩ (.slice dad xl.length dcap)) 32 :: Cells b12 (batCells ⟨xc, xq, xl⟩ (.slice dad xl.length dcap)) 29 :: Cells p5 (foldCells place pd xs) 61 :: DocAt pd d :: Sx.Own 2 1 (.slice pad pls.length pcap) pls.length (pls.map (Value.int .i64)) :: Fz H3 :: R) := hw
      have hr4 := hw.told (In.tl In.hd)
      generalize u 2 = sv4 at *
      clear u
      replace hw : Has 0 w0 W (Cells b11 (rowCells ⟨pl, ⟨xc, xq, xl⟩, er⟩ (.slice dad xl.length dcap)) 32 :: Cells b12 (batCells ⟨xc, xq, xl⟩ (.slice dad xl.length dcap)) 29 :: Cells b4 [sv4, .bool s4.2] 66 :: Cells p5 (foldCells place pd xs) 61 :: DocAt pd d :: Sx.Own 2 1 (.slice pad pls.length pcap) pls.length (pls.map (Value.int .i64)) :: Fz H3 :: R) := hw.sel (by repeat (first | exact Sel.nil | exact Sel.refl _ | refine Sel.cons (by repeat (first | exact Pick.hd | apply Pick.tl)) ?_ | refine Sel.skip ?_))
      replace hs : Slots a 129 [(0, .slice bad0 b.length bcap0), (4, .pointer (some ⟨b4, 0, none⟩)), (5, .pointer (some ⟨p5, 0, none⟩)), (8, .slice pad pls.length pcap), (9, .int .i64 (c : Int)), (10, .int .i64 seq), (11, .pointer (some ⟨b11, 0, none⟩)), (12, .pointer (some ⟨b12, 0, none⟩)), (13, .int .i64 err)] := hs.of ⟨rfl, rfl, rfl, rfl, rfl, rfl, rfl, rfl, rfl, trivial⟩
      clear her hs4 hr3 hr3' hr0 hr1' hr2' hr5
      generalize hL : (match decode bt with
        | none => none
        | some x => if x.1 = (c : Int) ∧ x.2.1 = seq ∧ 1 ≤ pl ∧ pl ≤ place ∧ fineE er = true ∧ pl ∉ pls then rdTold place (6 - (c + 1)) (c + 1) s4 (told.set c (seq, ⟨pl, batOf x, er⟩)) (pls ++ [pl]) else none : Option (List (Int × RowD) × (List UInt8 × Bool))) = LL
      have hrd : LL = RR := by rw [← hL]; exact hrd0
      clear hrd0
      have hx0 : decode bt = none ∧ err = 1 ∨ decode bt = some (xc, xq, xl) ∧ err = 0 := by
        unfold decR at hdec
        cases hdo : decode bt with
        | none => rw [hdo] at hdec; simp at hdec; exact .inl ⟨rfl, hdec.2.symm⟩
        | some x => rw [hdo] at hdec; simp at hdec; exact .inr ⟨by rw [hdec.1], hdec.2.symm⟩
      have bad1 : (err != 0) = true → LL = none := fun h => by
        rcases hx0 with ⟨h1, _⟩ | ⟨_, h2⟩
        · rw [← hL, h1]
        · rw [h2] at h; exact absurd h (by decide)
      have hif : ∀ {P : Prop}, (¬ (xc = (c : Int) ∧ xq = seq ∧ 1 ≤ pl ∧ pl ≤ place ∧ fineE er = true ∧ pl ∉ pls)) → LL = none := fun h => by
        rcases hx0 with ⟨h1, _⟩ | ⟨h1, _⟩
        · rw [← hL, h1]
        · rw [← hL, h1]
          exact if_neg h
      have good : (err != 0) = false → (xc != (c : Int)) = false → (xq != seq) = false → decide (pl < 1) = false → decide (pl > place) = false → fineE er = true → decide (pl ∈ pls) = false → rdTold place (6 - (c + 1)) (c + 1) s4 (told.set c (seq, ⟨pl, ⟨xc, xq, xl⟩, er⟩)) (pls ++ [pl]) = RR := fun a1 a2 a3 a4 a5 a6 a7 => by
        rcases hx0 with ⟨_, h2⟩ | ⟨h1, _⟩
        · rw [h2] at a1; exact absurd a1 (by decide)
        · rw [← hrd, ← hL, h1]
          simp only
          rw [if_pos ⟨by simpa using a2, by simpa using a3, by have := of_decide_eq_false a4; omega, by have := of_decide_eq_false a5; omega, a6, of_decide_eq_false a7⟩]
          rfl
      repeat (first | (refine sxv hs hw ?_; clear hs; intro a hs) | refine sxc hs ?_ | (refine sxa hs hw ?_; clear hs hw; intro a b W hw hs) | (refine sxs hs hw ?_; clear hs hw; intro W hs hw) | ((with_reducible first | refine st_ptrSome hs (k := ?_) | refine st_ptrNone hs (k := ?_)); clear hs; intro a hs))
      cases k1 : (err != 0) with
      | true =>
        refine fd_way1 hpll k1 hs hw ?_
        clear hs hw
        intro a W hs hw
        replace hw : Has 0 w0 W (Fz H3 :: R) := hw.sub (List.Sublist.cons _ (List.Sublist.cons _ (List.Sublist.cons _ (List.Sublist.cons _ (List.Sublist.cons _ (List.Sublist.cons _ (List.Sublist.refl _)))))))
        repeat (first | (refine sxv hs hw ?_; clear hs; intro a hs) | refine sxc hs ?_ | (refine sxa hs hw ?_; clear hs hw; intro a b W hw hs) | (refine sxs hs hw ?_; clear hs hw; intro W hs hw) | ((with_reducible first | refine st_ptrSome hs (k := ?_) | refine st_ptrNone hs (k := ?_)); clear hs; intro a hs))
        exact rt2 hs rfl rfl rfl ⟨H3, hle3, .inl ⟨noneF (by rw [← hrd]; exact bad1 k1), rfl, hw⟩⟩
      | false =>
      cases k2 : (xc != (c : Int)) with
      | true =>
        refine fd_way2 hpll k1 k2 hs hw ?_
        clear hs hw
        intro a W hs hw
        replace hw : Has 0 w0 W (Fz H3 :: R) := hw.sub (List.Sublist.cons _ (List.Sublist.cons _ (List.Sublist.cons _ (List.Sublist.cons _ (List.Sublist.cons _ (List.Sublist.cons _ (List.Sublist.refl _)))))))
        repeat (first | (refine sxv hs hw ?_; clear hs; intro a hs) | refine sxc hs ?_ | (refine sxa hs hw ?_; clear hs hw; intro a b W hw hs) | (refine sxs hs hw ?_; clear hs hw; intro W hs hw) | ((with_reducible first | refine st_ptrSome hs (k := ?_) | refine st_ptrNone hs (k := ?_)); clear hs; intro a hs))
        exact rt2 hs rfl rfl rfl ⟨H3, hle3, .inl ⟨noneF (by rw [← hrd]; exact hif (P := True) fun h => by rw [h.1] at k2; simp at k2), rfl, hw⟩⟩
      | false =>
      cases k3 : (xq != seq) with
      | true =>
        refine fd_way3 hpll k1 k2 k3 hs hw ?_
        clear hs hw
        intro a W hs hw
        replace hw : Has 0 w0 W (Fz H3 :: R) := hw.sub (List.Sublist.cons _ (List.Sublist.cons _ (List.Sublist.cons _ (List.Sublist.cons _ (List.Sublist.cons _ (List.Sublist.cons _ (List.Sublist.refl _)))))))
        repeat (first | (refine sxv hs hw ?_; clear hs; intro a hs) | refine sxc hs ?_ | (refine sxa hs hw ?_; clear hs hw; intro a b W hw hs) | (refine sxs hs hw ?_; clear hs hw; intro W hs hw) | ((with_reducible first | refine st_ptrSome hs (k := ?_) | refine st_ptrNone hs (k := ?_)); clear hs; intro a hs))
        exact rt2 hs rfl rfl rfl ⟨H3, hle3, .inl ⟨noneF (by rw [← hrd]; exact hif (P := True) fun h => by rw [h.2.1] at k3; simp at k3), rfl, hw⟩⟩
      | false =>
      cases k4 : decide (pl < 1) with
      | true =>
        refine fd_way4 hpll k1 k2 k3 k4 hs hw ?_
        clear hs hw
        intro a W hs hw
        replace hw : Has 0 w0 W (Fz H3 :: R) := hw.sub (List.Sublist.cons _ (List.Sublist.cons _ (List.Sublist.cons _ (List.Sublist.cons _ (List.Sublist.cons _ (List.Sublist.cons _ (List.Sublist.refl _)))))))
        repeat (first | (refine sxv hs hw ?_; clear hs; intro a hs) | refine sxc hs ?_ | (refine sxa hs hw ?_; clear hs hw; intro a b W hw hs) | (refine sxs hs hw ?_; clear hs hw; intro W hs hw) | ((with_reducible first | refine st_ptrSome hs (k := ?_) | refine st_ptrNone hs (k := ?_)); clear hs; intro a hs))
        exact rt2 hs rfl rfl rfl ⟨H3, hle3, .inl ⟨noneF (by rw [← hrd]; exact hif (P := True) fun h => by have := of_decide_eq_true k4; have := h.2.2.1; omega), rfl, hw⟩⟩
      | false =>
      cases k5 : decide (pl > place) with
      | true =>
        refine fd_way5 hpll k1 k2 k3 k4 k5 hs hw ?_
        clear hs hw
        intro a W hs hw
        replace hw : Has 0 w0 W (Fz H3 :: R) := hw.sub (List.Sublist.cons _ (List.Sublist.cons _ (List.Sublist.cons _ (List.Sublist.cons _ (List.Sublist.cons _ (List.Sublist.cons _ (List.Sublist.refl _)))))))
        repeat (first | (refine sxv hs hw ?_; clear hs; intro a hs) | refine sxc hs ?_ | (refine sxa hs hw ?_; clear hs hw; intro a b W hw hs) | (refine sxs hs hw ?_; clear hs hw; intro W hs hw) | ((with_reducible first | refine st_ptrSome hs (k := ?_) | refine st_ptrNone hs (k := ?_)); clear hs; intro a hs))
        exact rt2 hs rfl rfl rfl ⟨H3, hle3, .inl ⟨noneF (by rw [← hrd]; exact hif (P := True) fun h => by have := of_decide_eq_true k5; have := h.2.2.2.1; omega), rfl, hw⟩⟩
      | false =>
      cases kf6 : fineE er with
      | false =>
        refine fd_way6 hpll k1 k2 k3 k4 k5 kf6 hs hw ?_
        clear hs hw
        intro a W hs hw
        replace hw : Has 0 w0 W (Fz H3 :: R) := hw.sub (List.Sublist.cons _ (List.Sublist.cons _ (List.Sublist.cons _ (List.Sublist.cons _ (List.Sublist.cons _ (List.Sublist.cons _ (List.Sublist.refl _)))))))
        repeat (first | (refine sxv hs hw ?_; clear hs; intro a hs) | refine sxc hs ?_ | (refine sxa hs hw ?_; clear hs hw; intro a b W hw hs) | (refine sxs hs hw ?_; clear hs hw; intro W hs hw) | ((with_reducible first | refine st_ptrSome hs (k := ?_) | refine st_ptrNone hs (k := ?_)); clear hs; intro a hs))
        exact rt2 hs rfl rfl rfl ⟨H3, hle3, .inl ⟨noneF (by rw [← hrd]; exact hif (P := True) fun h => by rw [h.2.2.2.2.1] at kf6; cases kf6), rfl, hw⟩⟩
      | true =>
      cases k7 : decide (pl ∈ pls) with
      | true =>
        refine fd_way7 hpll k1 k2 k3 k4 k5 kf6 k7 hs hw ?_
        clear hs hw
        intro a W hs hw
        replace hw : Has 0 w0 W (Fz H3 :: R) := hw.sub (List.Sublist.cons _ (List.Sublist.cons _ (List.Sublist.cons _ (List.Sublist.cons _ (List.Sublist.cons _ (List.Sublist.cons _ (List.Sublist.refl _)))))))
        repeat (first | (refine sxv hs hw ?_; clear hs; intro a hs) | refine sxc hs ?_ | (refine sxa hs hw ?_; clear hs hw; intro a b W hw hs) | (refine sxs hs hw ?_; clear hs hw; intro W hs hw) | ((with_reducible first | refine st_ptrSome hs (k := ?_) | refine st_ptrNone hs (k := ?_)); clear hs; intro a hs))
        exact rt2 hs rfl rfl rfl ⟨H3, hle3, .inl ⟨noneF (by rw [← hrd]; exact hif (P := True) fun h => h.2.2.2.2.2 (of_decide_eq_true k7)), rfl, hw⟩⟩
      | false =>
      have hgo := good k1 k2 k3 k4 k5 kf6 k7
      refine fd_way0 hpll k1 k2 k3 k4 k5 kf6 k7 hs hw ?_
      clear hs hw
      intro a W hs hw
      repeat (first | (refine sxv hs hw ?_; clear hs; intro a hs) | refine sxc hs ?_ | (refine sxa hs hw ?_; clear hs hw; intro a b W hw hs) | (refine sxs hs hw ?_; clear hs hw; intro W hs hw) | ((with_reducible first | refine st_ptrSome hs (k := ?_) | refine st_ptrNone hs (k := ?_)); clear hs; intro a hs))
      obtain ⟨bq, qq⟩ := nm1 hw; subst qq
      replace hw : Has 0 w0 _ (Sx.Own 2 1 (.slice pad pls.length pcap) pls.length (pls.map (Value.int .i64)) :: Cells bq [.int .i64 pl] 2 :: Cells b11 (rowCells ⟨pl, ⟨xc, xq, xl⟩, er⟩ (.slice dad xl.length dcap)) 32 :: Cells b4 [sv4, .bool s4.2] 66 :: Cells p5 (foldCells place pd xs) 61 :: DocAt pd d :: Fz H3 :: R) := hw.sel (by repeat (first | exact Sel.nil | exact Sel.refl _ | refine Sel.cons (by repeat (first | exact Pick.hd | apply Pick.tl)) ?_ | refine Sel.skip ?_))
      refine st_append_lit hs (hw := hw) (k := pls.length) (xs := pls.map (Value.int .i64)) (hi := In.tl In.hd) (hl := rfl) (h1 := rfl) (h63 := by omega) (hb := by omega) (c := ?_)
      clear hs hw; intro a pad2 pcap2 W hs hw
      replace hw : Has 0 w0 _ (Cells p5 (foldCells place pd xs) 61 :: Cells b11 (rowCells ⟨pl, ⟨xc, xq, xl⟩, er⟩ (.slice dad xl.length dcap)) 32 :: Sx.Own 2 1 (.slice pad2 (pls.length + 1) pcap2) (pls.length + 1) (pls.map (Value.int .i64) ++ [.int .i64 pl]) :: Cells b4 [sv4, .bool s4.2] 66 :: DocAt pd d :: Fz H3 :: R) := hw.sel (by repeat (first | exact Sel.nil | exact Sel.refl _ | refine Sel.cons (by repeat (first | exact Pick.hd | apply Pick.tl)) ?_ | refine Sel.skip ?_))
      repeat (first | (refine sxv hs hw ?_; clear hs; intro a hs) | refine sxc hs ?_ | (refine sxa hs hw ?_; clear hs hw; intro a b W hw hs) | (refine sxs hs hw ?_; clear hs hw; intro W hs hw) | ((with_reducible first | refine st_ptrSome hs (k := ?_) | refine st_ptrNone hs (k := ?_)); clear hs; intro a hs))
      refine rg_draw (V := [.pointer (some ⟨p5, 0, none⟩), .int .i64 (c : Int), .int .i64 seq, .agg ⟨rowCells ⟨pl, ⟨xc, xq, xl⟩, er⟩ (.slice dad xl.length dcap)⟩, .agg ⟨.int .i64 seq :: rowCells ⟨pl, ⟨xc, xq, xl⟩, er⟩ (.slice dad xl.length dcap)⟩, .pointer (some ⟨p5, 0, none⟩), .pointer (some ⟨p5, 0 + 2, none⟩), .pointer (some ⟨p5, 0 + 2 + c * 6, none⟩), undef])
        (Rs := fun D => (if D 8 then Cells p5 (foldCells place pd (ov xs (c * 6) (.int .i64 seq :: rowCells ⟨pl, ⟨xc, xq, xl⟩, er⟩ (.slice dad xl.length dcap)))) 61 else Cells p5 (foldCells place pd xs) 61) :: Cells b11 (rowCells ⟨pl, ⟨xc, xq, xl⟩, er⟩ (.slice dad xl.length dcap)) 32 :: Sx.Own 2 1 (.slice pad2 (pls.length + 1) pcap2) (pls.length + 1) (pls.map (Value.int .i64) ++ [.int .i64 pl]) :: Cells b4 [sv4, .bool s4.2] 66 :: DocAt pd d :: Fz H3 :: R) hs hw (ho := ⟨?_, ?_, ?_, ?_, ?_, ?_, ?_, ?c7_19, ?c8_19, trivial⟩) (k := ?k_19)
      case c7_19 =>
        intro LD D a W hcl hi hp hs hw
        repeat (first | (refine sxv hs hw ?_; clear hs; intro a hs) | refine sxc hs ?_ | (refine sxa hs hw ?_; clear hs hw; intro a b W hw hs) | (refine sxs hs hw ?_; clear hs hw; intro W hs hw) | ((with_reducible first | refine st_ptrSome hs (k := ?_) | refine st_ptrNone hs (k := ?_)); clear hs; intro a hs))
        refine st_index_arr hs (h0 := by omega) (h1 := by omega) (c := ?_); clear hs; intro a hs
        rw [Int.toNat_natCast] at hs
        exact ⟨hs, hw⟩
      case c8_19 =>
        intro LD D a W hcl hi hp hs hw
        simp only [hi, Bool.false_eq_true, if_false] at hw
        refine st_store hs (hw := hw) (vs := .int .i64 seq :: rowCells ⟨pl, ⟨xc, xq, xl⟩, er⟩ (.slice dad xl.length dcap)) (hl := by show Nat.ble (0 + 2 + c * 6 + 6) (foldCells place pd xs).length = true; rw [fold_len place pd htk3]; apply Nat.ble_eq_true_of_le; omega) (k := ?_); clear hs hw; intro W hs hw
        repeat (first | (refine sxv hs hw ?_; clear hs; intro a hs) | refine sxc hs ?_ | (refine sxa hs hw ?_; clear hs hw; intro a b W hw hs) | (refine sxs hs hw ?_; clear hs hw; intro W hs hw) | ((with_reducible first | refine st_ptrSome hs (k := ?_) | refine st_ptrNone hs (k := ?_)); clear hs; intro a hs))
        refine ⟨hs, ?_⟩
        have e : 0 + 2 + c * 6 = c * 6 + 1 + 1 := by omega
        replace hw : Has 0 w0 W (Cells p5 (ov (foldCells place pd xs) (0 + 2 + c * 6) (.int .i64 seq :: rowCells ⟨pl, ⟨xc, xq, xl⟩, er⟩ (.slice dad xl.length dcap))) 61 :: Cells b11 (rowCells ⟨pl, ⟨xc, xq, xl⟩, er⟩ (.slice dad xl.length dcap)) 32 :: Sx.Own 2 1 (.slice pad2 (pls.length + 1) pcap2) (pls.length + 1) (pls.map (Value.int .i64) ++ [.int .i64 pl]) :: Cells b4 [sv4, .bool s4.2] 66 :: DocAt pd d :: Fz H3 :: R) := hw
        rw [show ov (foldCells place pd xs) (0 + 2 + c * 6) (.int .i64 seq :: rowCells ⟨pl, ⟨xc, xq, xl⟩, er⟩ (.slice dad xl.length dcap)) = foldCells place pd (ov xs (c * 6) (.int .i64 seq :: rowCells ⟨pl, ⟨xc, xq, xl⟩, er⟩ (.slice dad xl.length dcap))) from by rw [e]; rfl] at hw
        exact hw
      case k_19 =>
        clear hs hw
        intro a W hs hw
        replace hw : Has 0 w0 W (Cells p5 (foldCells place pd (ov xs (c * 6) (.int .i64 seq :: rowCells ⟨pl, ⟨xc, xq, xl⟩, er⟩ (.slice dad xl.length dcap)))) 61 :: Cells b11 (rowCells ⟨pl, ⟨xc, xq, xl⟩, er⟩ (.slice dad xl.length dcap)) 32 :: Sx.Own 2 1 (.slice pad2 (pls.length + 1) pcap2) (pls.length + 1) (pls.map (Value.int .i64) ++ [.int .i64 pl]) :: Cells b4 [sv4, .bool s4.2] 66 :: DocAt pd d :: Fz H3 :: R) := hw
        replace hw : Has 0 w0 W (Cells p5 (foldCells place pd (ov xs (c * 6) (.int .i64 seq :: rowCells ⟨pl, ⟨xc, xq, xl⟩, er⟩ (.slice dad xl.length dcap)))) 61 :: DocAt pd d :: Sx.Own 2 1 (.slice pad2 (pls.length + 1) pcap2) (pls.length + 1) (pls.map (Value.int .i64) ++ [.int .i64 pl]) :: Cells b4 [sv4, .bool s4.2] 66 :: Fz H3 :: R) := hw.sel (by repeat (first | exact Sel.nil | exact Sel.refl _ | refine Sel.cons (by repeat (first | exact Pick.hd | apply Pick.tl)) ?_ | refine Sel.skip ?_))
        have hpl2 : pls.map (Value.int .i64) ++ [Value.int .i64 pl] = (pls ++ [pl]).map (Value.int .i64) := by simp
        have hpl3 : pls.length + 1 = (pls ++ [pl]).length := by simp
        rw [hpl2, hpl3] at hw
        rw [hpl3] at hs
        have hts := told_set htk3 (c := c) (by omega) (x := (seq, ⟨pl, ⟨xc, xq, xl⟩, er⟩)) (sv := .slice dad xl.length dcap) hops
        repeat (first | (refine sxv hs hw ?_; clear hs; intro a hs) | refine sxc hs ?_ | (refine sxa hs hw ?_; clear hs hw; intro a b W hw hs) | (refine sxs hs hw ?_; clear hs hw; intro W hs hw) | ((with_reducible first | refine st_ptrSome hs (k := ?_) | refine st_ptrNone hs (k := ?_)); clear hs; intro a hs))
        exact st_again ⟨c + 1, s4, sv4, _, _, pls ++ [pl], pad2, pcap2, H3⟩ hs hw ⟨by show 1 ≤ c + 1; omega, by show c + 1 ≤ 6; omega, hle3, hr4, hts, by show (pls ++ [pl]).length ≤ c + 1; simp; omega, by show s4.1.length ≤ 100000; omega, hgo⟩ (by show 6 - (c + 1) < 6 - c; omega) ⟨rfl, rfl, rfl, rfl, int_eq (by show IntKind.i64.wrap ((c : Int) + 1) = ((c + 1 : Nat) : Int); rw [IntWalk.i64_in _ (by omega)]; omega), trivial⟩
      all_goals
        intro LD D a W hcl hi hp hs hw
        repeat (first | (refine sxv hs hw ?_; clear hs; intro a hs) | refine sxc hs ?_ | (refine sxa hs hw ?_; clear hs hw; intro a b W hw hs) | (refine sxs hs hw ?_; clear hs hw; intro W hs hw) | ((with_reducible first | refine st_ptrSome hs (k := ?_) | refine st_ptrNone hs (k := ?_)); clear hs; intro a hs))
        exact ⟨hs, hw⟩
  · have hc : c = 6 := by have := of_decide_eq_false hcc; omega
    subst hc
    have hrr : RR = some (told, s) := by rw [← hrd0]; rfl
    rw [hrr] at hdecF hRR
    simp only at hdecF
    have hff := fold_read hRR (by omega) hdf ⟨by omega, hgr.2⟩
    repeat (first | (refine sxv hs hw ?_; clear hs; intro a hs) | refine sxc hs ?_ | (refine sxa hs hw ?_; clear hs hw; intro a b W hw hs) | (refine sxs hs hw ?_; clear hs hw; intro W hs hw) | ((with_reducible first | refine st_ptrSome hs (k := ?_) | refine st_ptrNone hs (k := ?_)); clear hs; intro a hs))
    cases kb : s.2 with
    | true =>
      rw [kb] at hs hw
      rw [kb, if_neg (fun h => absurd h.1 (by decide))] at hdecF
      repeat (first | (refine sxv hs hw ?_; clear hs; intro a hs) | refine sxc hs ?_ | (refine sxa hs hw ?_; clear hs hw; intro a b W hw hs) | (refine sxs hs hw ?_; clear hs hw; intro W hs hw) | ((with_reducible first | refine st_ptrSome hs (k := ?_) | refine st_ptrNone hs (k := ?_)); clear hs; intro a hs))
      exact rt2 hs rfl rfl rfl ⟨H0, hle0, .inl ⟨hdecF, rfl, hw.sub (List.Sublist.cons _ (List.Sublist.cons _ (List.Sublist.cons _ (List.Sublist.cons _ (List.Sublist.refl _)))))⟩⟩
    | false =>
    rw [kb] at hs hw
    rw [kb] at hdecF
    repeat (first | (refine sxv hs hw ?_; clear hs; intro a hs) | refine sxc hs ?_ | (refine sxa hs hw ?_; clear hs hw; intro a b W hw hs) | (refine sxs hs hw ?_; clear hs hw; intro W hs hw) | ((with_reducible first | refine st_ptrSome hs (k := ?_) | refine st_ptrNone hs (k := ?_)); clear hs; intro a hs))
    replace hw := foldShut (f := ⟨place, d, told⟩) (pd := pd) hw htk
    replace hw : Has 0 w0 _ (FoldAt H0 p5 ⟨place, d, told⟩ :: Fz H0 :: R) := hw.sel (by repeat (first | exact Sel.nil | exact Sel.refl _ | refine Sel.cons (by repeat (first | exact Pick.hd | apply Pick.tl)) ?_ | refine Sel.skip ?_))
    refine st_call hs (hc := fold_Encode w0 _ H0 p5 ⟨place, d, told⟩ _ hff (hH.trans hle0) hT hw) (k := ?_); rintro e0 W1 ⟨ad, cap, rfl, hw1⟩; refine ⟨_, rfl, ?_⟩; clear hs hw; intro a hs; have hw := hw1; clear hw1
    repeat (first | (refine sxv hs hw ?_; clear hs; intro a hs) | refine sxc hs ?_ | (refine sxa hs hw ?_; clear hs hw; intro a b W hw hs) | (refine sxs hs hw ?_; clear hs hw; intro W hs hw) | ((with_reducible first | refine st_ptrSome hs (k := ?_) | refine st_ptrNone hs (k := ?_)); clear hs; intro a hs))
    refine st_call hs (hc := bytes_Equal (foldB ⟨place, d, told⟩) b _ _ _ (hw.rd_own In.hd) (hw.rdH (In.tl (In.tl In.hd)) (r.le hle0))) (k := ?_); rintro e0 W1 ⟨rfl, hb⟩; refine ⟨_, rfl, ?_⟩; clear hs; intro a hs; replace hw := hw.below hb; clear hb
    by_cases heq : foldB ⟨place, d, told⟩ = b
    · rw [if_pos ⟨rfl, heq⟩] at hdecF
      rw [show (foldB ⟨place, d, told⟩ == b) = true from by simpa using heq] at hs
      repeat (first | (refine sxv hs hw ?_; clear hs; intro a hs) | refine sxc hs ?_ | (refine sxa hs hw ?_; clear hs hw; intro a b W hw hs) | (refine sxs hs hw ?_; clear hs hw; intro W hs hw) | ((with_reducible first | refine st_ptrSome hs (k := ?_) | refine st_ptrNone hs (k := ?_)); clear hs; intro a hs))
      exact rt2 hs rfl rfl rfl ⟨H0, hle0, .inr ⟨_, p5, hdecF, rfl, hw.sub (List.Sublist.cons _ (List.Sublist.refl _))⟩⟩
    · rw [if_neg (fun h => heq h.2)] at hdecF
      rw [show (foldB ⟨place, d, told⟩ == b) = false from by simpa using heq] at hs
      repeat (first | (refine sxv hs hw ?_; clear hs; intro a hs) | refine sxc hs ?_ | (refine sxa hs hw ?_; clear hs hw; intro a b W hw hs) | (refine sxs hs hw ?_; clear hs hw; intro W hs hw) | ((with_reducible first | refine st_ptrSome hs (k := ?_) | refine st_ptrNone hs (k := ?_)); clear hs; intro a hs))
      exact rt2 hs rfl rfl rfl ⟨H0, hle0, .inl ⟨hdecF, rfl, hw.sub (List.Sublist.cons _ (List.Sublist.cons _ (List.Sublist.refl _)))⟩⟩
end Go.Proofs.YtmalklakaalaoaaDoor.Sw

set_option linter.unusedVariables false
set_option maxRecDepth 10000
namespace Go.Proofs.YtmalklakaalaoaaDoor.Sw
open Go.RowKit Go.Sx
abbrev o7 : OpD := ⟨4, ⟨#[110]⟩, 0, 0, ⟨#[]⟩, 0, 0, ⟨#[]⟩, 3⟩
abbrev b7 : BatchD := ⟨2, 1, [o7]⟩
abbrev r7 : RowD := ⟨1, b7, 0⟩
abbrev f7 : FoldD := ⟨1, [(⟨#[110]⟩, .inl 3)], (List.replicate 6 (0, zeroRow)).set 2 (1, r7)⟩
theorem n71 : next emptyF b7 = (f7, r7, true) := by kernel_rfl
theorem n72 : next f7 b7 = (f7, zeroRow, false) := by kernel_rfl
theorem o7_ok : ∀ o ∈ [o7], OpOk o := by
  intro o ho
  rw [List.mem_singleton] at ho
  subst ho
  exact ⟨⟨by decide, by decide⟩, ⟨by decide, by decide⟩, ⟨by decide, by decide⟩, ⟨by decide, by decide⟩, ⟨by decide, by decide⟩, ⟨by decide, by decide⟩, by decide, by decide, by decide⟩
theorem b7_ok : BatOk b7 := ⟨⟨by decide, by decide⟩, ⟨by decide, by decide⟩, o7_ok⟩
theorem f7_fine : FoldFine f7 := by
  have h := (FoldFine.empty.next b7_ok (by decide)).1
  rwa [n71] at h
theorem f7_told : toldOf f7 2 = r7 := by kernel_rfl
theorem f7_last2 : lastOf f7 2 = 1 := by kernel_rfl
theorem f7_last1 : lastOf f7 1 = 0 := by kernel_rfl
theorem FoldFine.blen {f : FoldD} (h : FoldFine f) : (foldB f).length ≤ 100000 := by
  have := accF_len h 6
  rwa [accF_all h] at this
theorem fold_DecodeOf (w0 W : World) (H : Fh) (f : FoldD) (v : Value) (R : List Res) (hf : FoldFine f) (r : RdH H 1 v (foldB f).length (bys (foldB f))) (hH : (fr w0).le H) (hT : Tabs w0) (hw : Has 0 w0 W (Fz H :: R)) :
    Calls Tryd.prog 11 ⟨[v]⟩ W fun e W' => ∃ H' p, H.le H' ∧ e = .returned (.tuple ⟨[.pointer (some ⟨p, 0, none⟩), .int .i64 0]⟩) ∧ Has 0 w0 W' (FoldAt H' p f :: Fz H' :: R) := by
  refine (fold_Decode w0 W H (foldB f) v R hf.blen r hH hT hw).mono ?_
  rintro e W' ⟨H', hle, (⟨h, _, _⟩ | ⟨f2, p, h, rfl, hw⟩)⟩
  · rw [hf.dec] at h; cases h
  · rw [hf.dec] at h
    injection h with h
    subst h
    exact ⟨H', p, hle, rfl, hw⟩
set_option maxHeartbeats 16000000 in
theorem law7_begun (w : World) (hT : Tabs w) :
    Calls Tryd.prog 6 ⟨[]⟩ w fun e w' => e = .returned (.bool true) ∧ Below w.heap.size w w' := by
  have hw := Has.startF w
  refine enter Tryd.func6 Tryd.ntmps6 rfl rfl fun a hs => ?_
  repeat (first | (refine sxv hs hw ?_; clear hs; intro a hs) | refine sxc hs ?_ | (refine sxa hs hw ?_; clear hs hw; intro a b W hw hs) | (refine sxs hs hw ?_; clear hs hw; intro W hs hw))
  refine st_call hs (hc := fold_New w _ (fr w) _ hw) (k := ?_); rintro e0 W1 ⟨p, rfl, hw1⟩; refine ⟨_, rfl, ?_⟩; clear hs hw; intro a hs; have hw := hw1; clear hw1
  repeat (first | (refine sxv hs hw ?_; clear hs; intro a hs) | refine sxc hs ?_ | (refine sxa hs hw ?_; clear hs hw; intro a b W hw hs) | (refine sxs hs hw ?_; clear hs hw; intro W hs hw) | ((with_reducible first | refine st_ptrSome hs (k := ?_) | refine st_ptrNone hs (k := ?_)); clear hs; intro a hs))
  obtain ⟨bo, qo⟩ := nm1 hw; subst qo
  replace hw : Has 0 w _ (Cells bo (opCells o7) 38 :: Fz (fr w) :: FoldAt (fr w) p emptyF :: []) := hw.perm (by repeat (first | exact List.Perm.refl _ | refine perm_pick (by repeat (first | exact Pick.hd | apply Pick.tl)) ?_))
  obtain ⟨H1, hle1, hw2, hop⟩ := hw.freeze_lit (m := 1) (sz := 9) rfl (by decide)
  clear hw; have hw := hw2; clear hw2
  replace hw := foldLe hw.swap2 hle1
  refine st_call hs (hc := fold_Next w _ H1 p emptyF b7 _ _ b7_ok (RdH.le (n := 1) (xs := [o7].flatMap opCells) hop (Fh.le.refl _)) hle1 hT hw) (k := ?_); rw [n71]; rintro e0 W1 ⟨sv1, H2, rfl, hle2, hsv1, hw1⟩; refine ⟨_, rfl, ?_⟩; clear hs hw; intro a hs; have hw := hw1; clear hw1
  obtain ⟨ad1, cap1, rfl⟩ := hsv1.slice
  repeat (first | (refine sxv hs hw ?_; clear hs; intro a hs) | refine sxc hs ?_ | (refine sxa hs hw ?_; clear hs hw; intro a b W hw hs) | (refine sxs hs hw ?_; clear hs hw; intro W hs hw) | ((with_reducible first | refine st_ptrSome hs (k := ?_) | refine st_ptrNone hs (k := ?_)); clear hs; intro a hs))
  obtain ⟨bq, qq⟩ := nm1 hw; subst qq
  obtain ⟨bt2, qt⟩ := nm2 hw; subst qt
  replace hw : Has 0 w _ (Cells bq (opCells o7) 38 :: Fz H2 :: Cells bt2 (rowCells r7 (.slice ad1 r7.b.l.length cap1)) 32 :: FoldAt H2 p f7 :: []) := hw.perm (by repeat (first | exact List.Perm.refl _ | refine perm_pick (by repeat (first | exact Pick.hd | apply Pick.tl)) ?_))
  obtain ⟨H3, hle3, hw2, hop3⟩ := hw.freeze_lit (m := 1) (sz := 9) rfl (by decide)
  clear hw; have hw := hw2; clear hw2
  replace hw : Has 0 w _ (FoldAt H3 p f7 :: Fz H3 :: Cells bt2 (rowCells r7 (.slice ad1 r7.b.l.length cap1)) 32 :: []) := foldLe (hw.perm (by repeat (first | exact List.Perm.refl _ | refine perm_pick (by repeat (first | exact Pick.hd | apply Pick.tl)) ?_)) : Has 0 w _ (FoldAt H2 p f7 :: Fz H3 :: Cells bt2 (rowCells r7 (.slice ad1 r7.b.l.length cap1)) 32 :: [])) hle3
  refine st_call hs (hc := fold_Next w _ H3 p f7 b7 _ _ b7_ok (RdH.le (n := 1) (xs := [o7].flatMap opCells) hop3 (Fh.le.refl _)) ((hle1.trans hle2).trans hle3) hT hw) (k := ?_); rw [n72]; rintro e0 W1 ⟨sv2, H4, rfl, hle4, hsv2, hw1⟩; refine ⟨_, rfl, ?_⟩; clear hs hw; intro a hs; have hw := hw1; clear hw1
  obtain ⟨ad2, cap2, rfl⟩ := hsv2.slice
  repeat (first | (refine sxv hs hw ?_; clear hs; intro a hs) | refine sxc hs ?_ | (refine sxa hs hw ?_; clear hs hw; intro a b W hw hs) | (refine sxs hs hw ?_; clear hs hw; intro W hs hw) | ((with_reducible first | refine st_ptrSome hs (k := ?_) | refine st_ptrNone hs (k := ?_)); clear hs; intro a hs))
  replace hw : Has 0 w _ (FoldAt H4 p f7 :: Fz H4 :: Cells bt2 (rowCells r7 (.slice ad1 r7.b.l.length cap1)) 32 :: []) := hw.sel (by repeat (first | exact Sel.nil | exact Sel.refl _ | refine Sel.cons (by repeat (first | exact Pick.hd | apply Pick.tl)) ?_ | refine Sel.skip ?_))
  refine st_call hs (hc := fold_Told w _ H4 p f7 2 _ (fun x hx => (f7_fine.ok.told x hx).2.2) hw) (k := ?_); rw [f7_told, f7_last2]; rintro e0 W1 ⟨sv3, H5, rfl, hle5, hsv3, hw1⟩; refine ⟨_, rfl, ?_⟩; clear hs hw; intro a hs; have hw := hw1; clear hw1
  obtain ⟨ad3, cap3, rfl⟩ := hsv3.slice
  repeat (first | (refine sxv hs hw ?_; clear hs; intro a hs) | refine sxc hs ?_ | (refine sxa hs hw ?_; clear hs hw; intro a b W hw hs) | (refine sxs hs hw ?_; clear hs hw; intro W hs hw) | ((with_reducible first | refine st_ptrSome hs (k := ?_) | refine st_ptrNone hs (k := ?_)); clear hs; intro a hs))
  obtain ⟨bt6, qt⟩ := nm1 hw; subst qt
  have hle := (((hle1.trans hle2).trans hle3).trans hle4).trans hle5
  replace hw : Has 0 w _ (FoldAt H5 p f7 :: Fz H5 :: Cells bt6 (rowCells r7 (.slice ad3 r7.b.l.length cap3)) 32 :: Cells bt2 (rowCells r7 (.slice ad1 r7.b.l.length cap1)) 32 :: []) := (foldLe (hw.perm (by repeat (first | exact List.Perm.refl _ | refine perm_pick (by repeat (first | exact Pick.hd | apply Pick.tl)) ?_)) : Has 0 w _ (FoldAt H4 p f7 :: Fz H5 :: Cells bt6 (rowCells r7 (.slice ad3 r7.b.l.length cap3)) 32 :: Cells bt2 (rowCells r7 (.slice ad1 r7.b.l.length cap1)) 32 :: [])) hle5)
  refine st_call hs (hc := fold_Encode w _ H5 p f7 _ f7_fine hle hT hw) (k := ?_); rintro e0 W1 ⟨ad, cap, rfl, hw1⟩; refine ⟨_, rfl, ?_⟩; clear hs hw; intro a hs; have hw := hw1; clear hw1
  replace hw : Has 0 w _ (Sx.OwnB 5 (.slice ad (foldB f7).length cap) (foldB f7) :: Fz H5 :: FoldAt H5 p f7 :: Cells bt6 (rowCells r7 (.slice ad3 r7.b.l.length cap3)) 32 :: Cells bt2 (rowCells r7 (.slice ad1 r7.b.l.length cap1)) 32 :: []) := hw.perm (by repeat (first | exact List.Perm.refl _ | refine perm_pick (by repeat (first | exact Pick.hd | apply Pick.tl)) ?_))
  obtain ⟨H6, hle6, hw2, hbb⟩ := hw.freeze_own
  clear hw; have hw := hw2; clear hw2
  repeat (first | (refine sxv hs hw ?_; clear hs; intro a hs) | refine sxc hs ?_ | (refine sxa hs hw ?_; clear hs hw; intro a b W hw hs) | (refine sxs hs hw ?_; clear hs hw; intro W hs hw) | ((with_reducible first | refine st_ptrSome hs (k := ?_) | refine st_ptrNone hs (k := ?_)); clear hs; intro a hs))
  refine st_call hs (hc := fold_DecodeOf w _ H6 f7 _ _ f7_fine hbb (hle.trans hle6) hT hw) (k := ?_); rintro e0 W1 ⟨H7, g, hle7, rfl, hw1⟩; refine ⟨_, rfl, ?_⟩; clear hs hw; intro a hs; have hw := hw1; clear hw1
  repeat (first | (refine sxv hs hw ?_; clear hs; intro a hs) | refine sxc hs ?_ | (refine sxa hs hw ?_; clear hs hw; intro a b W hw hs) | (refine sxs hs hw ?_; clear hs hw; intro W hs hw) | ((with_reducible first | refine st_ptrSome hs (k := ?_) | refine st_ptrNone hs (k := ?_)); clear hs; intro a hs))
  have hleA := (hle.trans hle6).trans hle7
  replace hw : Has 0 w _ (FoldAt H7 p f7 :: FoldAt H7 g f7 :: Fz H7 :: Cells bt6 (rowCells r7 (.slice ad3 r7.b.l.length cap3)) 32 :: Cells bt2 (rowCells r7 (.slice ad1 r7.b.l.length cap1)) 32 :: []) := foldLe (hw.perm (by repeat (first | exact List.Perm.refl _ | refine perm_pick (by repeat (first | exact Pick.hd | apply Pick.tl)) ?_)) : Has 0 w _ (FoldAt H5 p f7 :: FoldAt H7 g f7 :: Fz H7 :: Cells bt6 (rowCells r7 (.slice ad3 r7.b.l.length cap3)) 32 :: Cells bt2 (rowCells r7 (.slice ad1 r7.b.l.length cap1)) 32 :: [])) (hle6.trans hle7)
  refine st_call hs (hc := fold_Place w _ H7 p f7 _ hw) (k := ?_); rintro e0 W1 ⟨rfl, hw1⟩; refine ⟨_, rfl, ?_⟩; clear hs hw; intro a hs; have hw := hw1; clear hw1
  repeat (first | (refine sxv hs hw ?_; clear hs; intro a hs) | refine sxc hs ?_ | (refine sxa hs hw ?_; clear hs hw; intro a b W hw hs) | (refine sxs hs hw ?_; clear hs hw; intro W hs hw) | ((with_reducible first | refine st_ptrSome hs (k := ?_) | refine st_ptrNone hs (k := ?_)); clear hs; intro a hs))
  refine st_call hs (hc := fold_Last w _ H7 p f7 2 _ hw) (k := ?_); rw [f7_last2]; rintro e0 W1 ⟨rfl, hw1⟩; refine ⟨_, rfl, ?_⟩; clear hs hw; intro a hs; have hw := hw1; clear hw1
  repeat (first | (refine sxv hs hw ?_; clear hs; intro a hs) | refine sxc hs ?_ | (refine sxa hs hw ?_; clear hs hw; intro a b W hw hs) | (refine sxs hs hw ?_; clear hs hw; intro W hs hw) | ((with_reducible first | refine st_ptrSome hs (k := ?_) | refine st_ptrNone hs (k := ?_)); clear hs; intro a hs))
  refine st_call hs (hc := fold_Last w _ H7 p f7 1 _ hw) (k := ?_); rw [f7_last1]; rintro e0 W1 ⟨rfl, hw1⟩; refine ⟨_, rfl, ?_⟩; clear hs hw; intro a hs; have hw := hw1; clear hw1
  repeat (first | (refine sxv hs hw ?_; clear hs; intro a hs) | refine sxc hs ?_ | (refine sxa hs hw ?_; clear hs hw; intro a b W hw hs) | (refine sxs hs hw ?_; clear hs hw; intro W hs hw) | ((with_reducible first | refine st_ptrSome hs (k := ?_) | refine st_ptrNone hs (k := ?_)); clear hs; intro a hs))
  replace hw : Has 0 w _ (FoldAt H7 g f7 :: FoldAt H7 p f7 :: Fz H7 :: Cells bt6 (rowCells r7 (.slice ad3 r7.b.l.length cap3)) 32 :: Cells bt2 (rowCells r7 (.slice ad1 r7.b.l.length cap1)) 32 :: []) := hw.swap2
  refine st_call hs (hc := fold_Eq w _ H7 g p f7 f7 _ f7_fine f7_fine hleA hT hw) (k := ?_); rw [beq_self_eq_true]; rintro e0 W1 ⟨rfl, hw1⟩; refine ⟨_, rfl, ?_⟩; clear hs hw; intro a hs; have hw := hw1; clear hw1
  repeat (first | (refine sxv hs hw ?_; clear hs; intro a hs) | refine sxc hs ?_ | (refine sxa hs hw ?_; clear hs hw; intro a b W hw hs) | (refine sxs hs hw ?_; clear hs hw; intro W hs hw) | ((with_reducible first | refine st_ptrSome hs (k := ?_) | refine st_ptrNone hs (k := ?_)); clear hs; intro a hs))
  replace hw : Has 0 w _ (FoldAt H7 p f7 :: Fz H7 :: []) := hw.sel (by repeat (first | exact Sel.nil | exact Sel.refl _ | refine Sel.cons (by repeat (first | exact Pick.hd | apply Pick.tl)) ?_ | refine Sel.skip ?_))
  refine st_call hs (hc := fold_Doc w _ H7 p f7 _ hw) (k := ?_); rintro e0 W1 ⟨q, rfl, hw1⟩; refine ⟨_, rfl, ?_⟩; clear hs hw; intro a hs; have hw := hw1; clear hw1
  repeat (first | (refine sxv hs hw ?_; clear hs; intro a hs) | refine sxc hs ?_ | (refine sxa hs hw ?_; clear hs hw; intro a b W hw hs) | (refine sxs hs hw ?_; clear hs hw; intro W hs hw) | ((with_reducible first | refine st_ptrSome hs (k := ?_) | refine st_ptrNone hs (k := ?_)); clear hs; intro a hs))
  refine st_call hs (hc := doc_Keys w _ q f7.d _ f7_fine.doc hw) (k := ?_); rintro e0 W1 ⟨kv, rfl, hw1⟩; refine ⟨_, rfl, ?_⟩; clear hs hw; intro a hs; have hw := hw1; clear hw1
  obtain ⟨kad2, kcap2, rfl⟩ := hw.own_slice
  repeat (first | (refine sxv hs hw ?_; clear hs; intro a hs) | refine sxc hs ?_ | (refine sxa hs hw ?_; clear hs hw; intro a b W hw hs) | (refine sxs hs hw ?_; clear hs hw; intro W hs hw) | ((with_reducible first | refine st_ptrSome hs (k := ?_) | refine st_ptrNone hs (k := ?_)); clear hs; intro a hs))
  exact rt1 hs rfl rfl ⟨rfl, hw.endF (by repeat (first | exact In.hd | apply In.tl)) hleA⟩
set_option maxHeartbeats 16000000 in
theorem law7_tells (w0 W : World) (H : Fh) (l : List UInt8) (v : Value) (R : List Res) (hl : l.length ≤ 100000) (r : RdH H 1 v l.length (bys l)) (hH : (fr w0).le H) (hT : Tabs w0) (hw : Has 0 w0 W (Fz H :: R)) :
    Calls Tryd.prog 7 ⟨[v]⟩ W fun e W' => ∃ H', H.le H' ∧ e = .returned (.bool true) ∧ Has 0 w0 W' (Fz H' :: R) := by
  obtain ⟨sad, scap, rfl⟩ := r.slice
  refine enter Tryd.func7 Tryd.ntmps7 rfl rfl fun a hs => ?_
  repeat (first | (refine sxv hs hw ?_; clear hs; intro a hs) | refine sxc hs ?_ | (refine sxa hs hw ?_; clear hs hw; intro a b W hw hs) | (refine sxs hs hw ?_; clear hs hw; intro W hs hw))
  refine st_call hs (hc := fold_Decode w0 _ H l _ _ hl r hH hT hw) (k := ?_); rintro e0 W1 ⟨H1, hle1, (⟨_, rfl, hw1⟩ | ⟨f, p, hdd, rfl, hw1⟩)⟩
  · refine ⟨_, rfl, ?_⟩; clear hs hw; intro a hs; have hw := hw1; clear hw1
    repeat (first | (refine sxv hs hw ?_; clear hs; intro a hs) | refine sxc hs ?_ | (refine sxa hs hw ?_; clear hs hw; intro a b W hw hs) | (refine sxs hs hw ?_; clear hs hw; intro W hs hw) | ((with_reducible first | refine st_ptrSome hs (k := ?_) | refine st_ptrNone hs (k := ?_)); clear hs; intro a hs))
    exact rt1 hs rfl rfl ⟨H1, hle1, rfl, hw⟩
  · refine ⟨_, rfl, ?_⟩; clear hs hw; intro a hs; have hw := hw1; clear hw1
    obtain ⟨hdl, hdf⟩ := decF_some (by omega) hdd
    have r1 := r.le hle1
    have hH1 := hH.trans hle1
    repeat (first | (refine sxv hs hw ?_; clear hs; intro a hs) | refine sxc hs ?_ | (refine sxa hs hw ?_; clear hs hw; intro a b W hw hs) | (refine sxs hs hw ?_; clear hs hw; intro W hs hw))
    have hw := hw.free
    refine rg_drawU (σ := Option Addr × Nat) (V := fun u => [.pointer (some ⟨p, 0, none⟩), .slice (u 1).1 l.length (u 1).2, .string ⟨l.toArray⟩, .slice sad l.length scap, .string ⟨l.toArray⟩, .bool true, .bool true])
      (Rs := fun u D => (if D 1 then Sx.OwnB 5 (.slice (u 1).1 l.length (u 1).2) l else Free) :: FoldAt H1 p f :: Fz H1 :: R) (fun _ => (none, 0)) hs hw (hVu := ?vu_c) (ho := ⟨?_, ?c1_c, ?c2_c, ?_, ?c4_c, ?c5_c, ?_, trivial⟩) (k := ?k_c)
    case vu_c =>
      intro u u' j h
      rcases j with _ | _ | _ | _ | _ | _ | _ | j
      all_goals first | rfl | simp [h]
    case c1_c =>
      intro u LD D a W hcl hi hp hs hw
      simp only [hi, Bool.false_eq_true, if_false] at hw
      replace hw : Has 0 w0 W (FoldAt H1 p f :: Fz H1 :: R) := hw.sub (List.Sublist.cons _ (List.Sublist.refl _))
      refine st_call hs (hc := fold_Encode w0 _ H1 p f _ hdf hH1 hT hw) (k := ?_); rw [hdl]; rintro e0 W1 ⟨ad, cap, rfl, hw1⟩; refine ⟨_, rfl, ?_⟩; clear hs hw; intro a hs; have hw := hw1; clear hw1
      repeat (first | (refine sxv hs hw ?_; clear hs; intro a hs) | refine sxc hs ?_ | (refine sxa hs hw ?_; clear hs hw; intro a b W hw hs) | (refine sxs hs hw ?_; clear hs hw; intro W hs hw))
      exact Or.inr ⟨(ad, cap), hs, hw⟩
    case c2_c =>
      intro u LD D a W hcl hi hp hs hw
      have h1 := Go.Sx.done hp 1 (by kernel_rfl)
      have hw0 := hw
      simp only [h1, if_true] at hw
      refine st_string_b hs (r := hw.rd_own In.hd) (k := ?_); clear hs; intro a hs
      repeat (first | (refine sxv hs hw ?_; clear hs; intro a hs) | refine sxc hs ?_ | (refine sxa hs hw ?_; clear hs hw; intro a b W hw hs) | (refine sxs hs hw ?_; clear hs hw; intro W hs hw))
      exact Or.inl ⟨hs, hw0⟩
    case c4_c =>
      intro u LD D a W hcl hi hp hs hw
      refine st_string_b hs (r := hw.rdH (In.tl (In.tl In.hd)) r1) (k := ?_); clear hs; intro a hs
      repeat (first | (refine sxv hs hw ?_; clear hs; intro a hs) | refine sxc hs ?_ | (refine sxa hs hw ?_; clear hs hw; intro a b W hw hs) | (refine sxs hs hw ?_; clear hs hw; intro W hs hw))
      exact Or.inl ⟨hs, hw⟩
    case c5_c =>
      intro u LD D a W hcl hi hp hs hw
      repeat (first | (refine sxv hs hw ?_; clear hs; intro a hs) | refine sxc hs ?_ | (refine sxa hs hw ?_; clear hs hw; intro a b W hw hs) | (refine sxs hs hw ?_; clear hs hw; intro W hs hw))
      rw [beq_self_eq_true] at hs
      exact Or.inl ⟨hs, hw⟩
    case k_c =>
      clear hs hw
      intro u a W hs hw
      replace hw : Has 0 w0 W (Sx.OwnB 5 (.slice (u 1).1 l.length (u 1).2) l :: FoldAt H1 p f :: Fz H1 :: R) := hw
      replace hs : Slots a 24 [(2, .bool true)] := hs.of ⟨rfl, trivial⟩
      repeat (first | (refine sxv hs hw ?_; clear hs; intro a hs) | refine sxc hs ?_ | (refine sxa hs hw ?_; clear hs hw; intro a b W hw hs) | (refine sxs hs hw ?_; clear hs hw; intro W hs hw))
      exact rt1 hs rfl rfl ⟨H1, hle1, rfl, hw.sub (List.Sublist.cons _ (List.Sublist.cons _ (List.Sublist.refl _)))⟩
    all_goals
      intro u LD D a W hcl hi hp hs hw
      repeat (first | (refine sxv hs hw ?_; clear hs; intro a hs) | refine sxc hs ?_ | (refine sxa hs hw ?_; clear hs hw; intro a b W hw hs) | (refine sxs hs hw ?_; clear hs hw; intro W hs hw))
      exact Or.inl ⟨hs, hw⟩
end Go.Proofs.YtmalklakaalaoaaDoor.Sw

set_option linter.unusedVariables false
namespace Go.Proofs.YtmalklakaalaoaaDoor.Sw
open Go.RowKit Go.Sx
set_option maxHeartbeats 4000000 in
theorem law1_Short (w w0 : World) (v : Value) (l : List UInt8) (n : Nat) (r : RdB w0 v l) (hn : n ≤ 1000000) :
    Calls Tryd.prog 8 ⟨[v, .int .i64 n]⟩ w fun e W' => (∃ ad cap, e = .returned (.slice ad (l.take n).length cap) ∧ RdB w0 (.slice ad (l.take n).length cap) (l.take n)) ∧ Below w.heap.size w W' := by
  have hw := Has.start (G := 0) (w := w) (Nat.zero_le _)
  obtain ⟨ad, cap, rfl, -⟩ := r.cells
  refine enter Tryd.func8 Tryd.ntmps8 rfl rfl fun a hs => ?_
  repeat (first | (refine sxv hs hw ?_; clear hs; intro a hs) | refine sxc hs ?_ | (refine sxa hs hw ?_; clear hs hw; intro a b W hw hs) | (refine sxs hs hw ?_; clear hs hw; intro W hs hw))
  by_cases h : (l.length : Int) > (n : Int)
  · have e1 : decide ((l.length : Int) > (n : Int)) = true := by simpa using h
    rw [e1] at hs
    repeat (first | (refine sxv hs hw ?_; clear hs; intro a hs) | refine sxc hs ?_ | (refine sxa hs hw ?_; clear hs hw; intro a b W hw hs) | (refine sxs hs hw ?_; clear hs hw; intro W hs hw))
    refine st_slice_hi_b (hs := hs) (r := r) (h0 := by omega) (h1 := by omega) (c := ?_)
    clear hs; intro a ad2 cap2 hr hs
    rw [show (n : Int).toNat = n by omega] at hr hs
    repeat (first | (refine sxv hs hw ?_; clear hs; intro a hs) | refine sxc hs ?_ | (refine sxa hs hw ?_; clear hs hw; intro a b W hw hs) | (refine sxs hs hw ?_; clear hs hw; intro W hs hw))
    exact rt1 hs rfl rfl ⟨⟨_, _, rfl, hr⟩, hw.end (by repeat (first | exact In.hd | apply In.tl))⟩
  · have e1 : decide ((l.length : Int) > (n : Int)) = false := by simpa using h
    rw [e1] at hs
    repeat (first | (refine sxv hs hw ?_; clear hs; intro a hs) | refine sxc hs ?_ | (refine sxa hs hw ?_; clear hs hw; intro a b W hw hs) | (refine sxs hs hw ?_; clear hs hw; intro W hs hw))
    have e2 : l.take n = l := List.take_of_length_le (by omega)
    rw [e2]
    exact rt1 hs rfl rfl ⟨⟨_, _, rfl, r⟩, hw.end (by repeat (first | exact In.hd | apply In.tl))⟩
end Go.Proofs.YtmalklakaalaoaaDoor.Sw

set_option linter.unusedVariables false
set_option maxRecDepth 10000
namespace Go.Proofs.YtmalklakaalaoaaDoor.Sw
open Go.RowKit Go.Sx
set_option maxHeartbeats 16000000 in
theorem walk_FoldAny (l : List UInt8) (v : Value) (w : World) (hr : RdB w v l) (hT : Tabs w) :
    Calls Tryd.prog 3 ⟨[v]⟩ w fun e w' => e = .returned (.bool true) ∧ Below w.heap.size w w' := by
  have hw := Has.startF w
  obtain ⟨rad, rcap, rfl, -⟩ := hr.cells
  refine enter Tryd.func3 Tryd.ntmps3 rfl rfl fun a hs => ?_
  repeat (first | (refine sxv hs hw ?_; clear hs; intro a hs) | refine sxc hs ?_ | (refine sxa hs hw ?_; clear hs hw; intro a b W hw hs) | (refine sxs hs hw ?_; clear hs hw; intro W hs hw))
  refine st_call hs (hc := law7_begun _ hT) (k := ?_); rintro e0 W1 ⟨rfl, hb⟩; refine ⟨_, rfl, ?_⟩; clear hs; intro a hs; replace hw := hw.below hb; clear hb
  repeat (first | (refine sxv hs hw ?_; clear hs; intro a hs) | refine sxc hs ?_ | (refine sxa hs hw ?_; clear hs hw; intro a b W hw hs) | (refine sxs hs hw ?_; clear hs hw; intro W hs hw))
  refine st_call hs (hc := law1_Short _ w _ l 80 hr (by omega)) (k := ?_); rintro e0 W1 ⟨⟨ad6, cap6, rfl, hr6⟩, hbb6⟩; refine ⟨_, rfl, ?_⟩; clear hs; intro a hs; replace hw := hw.below hbb6; clear hbb6
  have hl6 : (l.take 80).length ≤ 100000 := by rw [List.length_take]; omega
  repeat (first | (refine sxv hs hw ?_; clear hs; intro a hs) | refine sxc hs ?_ | (refine sxa hs hw ?_; clear hs hw; intro a b W hw hs) | (refine sxs hs hw ?_; clear hs hw; intro W hs hw))
  refine st_call hs (hc := law7_tells w _ (fr w) (l.take 80) _ _ hl6 (RdH.of_rd hr6 (Fh.le.refl _) (by decide)) (Fh.le.refl _) hT hw) (k := ?_); rintro e0 W1 ⟨H1, hle1, rfl, hw1⟩; refine ⟨_, rfl, ?_⟩; clear hs hw; intro a hs; have hw := hw1; clear hw1
  repeat (first | (refine sxv hs hw ?_; clear hs; intro a hs) | refine sxc hs ?_ | (refine sxa hs hw ?_; clear hs hw; intro a b W hw hs) | (refine sxs hs hw ?_; clear hs hw; intro W hs hw))
  exact rt1 hs rfl rfl ⟨rfl, hw.endF (by repeat (first | exact In.hd | apply In.tl)) hle1⟩
end Go.Proofs.YtmalklakaalaoaaDoor.Sw

set_option linter.unusedVariables false
set_option maxRecDepth 10000
namespace Go.Proofs.YtmalklakaalaoaaDoor.Sw
open Go.RowKit Go.Sx
set_option maxHeartbeats 8000000 in
theorem fold_NextNil (w0 W : World) (bt : BatchD) (sv : Value) (R : List Res) (hsv : ∃ ad cap, sv = .slice ad bt.l.length cap) (hw : Has 0 w0 W R) :
    Calls Tryd.prog 9 ⟨[.pointer none, .agg ⟨batCells bt sv⟩]⟩ W fun e W' => e = .returned (.tuple ⟨[.agg ⟨zrc⟩, .bool false]⟩) ∧ Has 0 w0 W' R := by
  obtain ⟨sad, scap, rfl⟩ := hsv
  refine enter Tryd.func9 Tryd.ntmps9 rfl rfl fun a hs => ?_
  repeat (first | (refine sxv hs hw ?_; clear hs; intro a hs) | refine sxc hs ?_ | (refine sxa hs hw ?_; clear hs hw; intro a b W hw hs) | (refine sxs hs hw ?_; clear hs hw; intro W hs hw))
  refine rg_draw (V := [.pointer none, .bool true, .bool true, undef, undef, undef, .bool true, .bool true, undef, undef, undef, undef, undef, undef, undef, undef, .bool true])
    (Rs := fun D => _) hs hw (ho := ⟨?_, ?_, ?_, ?_, ?_, ?_, ?_, ?_, ?_, ?_, ?_, ?_, ?_, ?_, ?_, ?_, ?_, trivial⟩) (k := ?k_1)
  case k_1 =>
    clear hs hw
    intro a W hs hw
    repeat (first | (refine sxv hs hw ?_; clear hs; intro a hs) | refine sxc hs ?_ | (refine sxa hs hw ?_; clear hs hw; intro a b W hw hs) | (refine sxs hs hw ?_; clear hs hw; intro W hs hw))
    refine rc2 hs rfl rfl hw In.hd rfl rfl ?_
    exact ⟨rfl, hw.sub (List.Sublist.cons _ (List.Sublist.cons _ (List.Sublist.refl _)))⟩
  all_goals
    intro LD D a W hcl hi hp hs hw
    repeat (first | (refine sxv hs hw ?_; clear hs; intro a hs) | refine sxc hs ?_ | (refine sxa hs hw ?_; clear hs hw; intro a b W hw hs) | (refine sxs hs hw ?_; clear hs hw; intro W hs hw) | ((with_reducible first | refine st_ptrSome hs (k := ?_) | refine st_ptrNone hs (k := ?_)); clear hs; intro a hs))
    exact ⟨hs, hw⟩
theorem fold_LastNil (c : Int) (W : World) : Calls Tryd.prog 13 ⟨[.pointer none, .int .i64 c]⟩ W fun e W' => e = .returned (.int .i64 0) ∧ Below W.heap.size W W' := by
  have hw := Has.start (G := 0) (w := W) (Nat.zero_le _)
  refine enter Tryd.func13 Tryd.ntmps13 rfl rfl fun a hs => ?_
  repeat (first | (refine sxv hs hw ?_; clear hs; intro a hs) | refine sxc hs ?_ | (refine sxa hs hw ?_; clear hs hw; intro a b W hw hs) | (refine sxs hs hw ?_; clear hs hw; intro W hs hw) | ((with_reducible first | refine st_ptrSome hs (k := ?_) | refine st_ptrNone hs (k := ?_)); clear hs; intro a hs))
  exact rt1 hs rfl rfl ⟨rfl, hw.end (by repeat (first | exact In.hd | apply In.tl))⟩
theorem fold_PlaceNil (W : World) : Calls Tryd.prog 12 ⟨[.pointer none]⟩ W fun e W' => e = .returned (.int .i64 0) ∧ Below W.heap.size W W' := by
  have hw := Has.start (G := 0) (w := W) (Nat.zero_le _)
  refine enter Tryd.func12 Tryd.ntmps12 rfl rfl fun a hs => ?_
  repeat (first | (refine sxv hs hw ?_; clear hs; intro a hs) | refine sxc hs ?_ | (refine sxa hs hw ?_; clear hs hw; intro a b W hw hs) | (refine sxs hs hw ?_; clear hs hw; intro W hs hw) | ((with_reducible first | refine st_ptrSome hs (k := ?_) | refine st_ptrNone hs (k := ?_)); clear hs; intro a hs))
  exact rt1 hs rfl rfl ⟨rfl, hw.end (by repeat (first | exact In.hd | apply In.tl))⟩
theorem fold_ToldNil (w0 W : World) (c : Int) (R : List Res) (hw : Has 0 w0 W R) :
    Calls Tryd.prog 10 ⟨[.pointer none, .int .i64 c]⟩ W fun e W' => e = .returned (.tuple ⟨[.agg ⟨zrc⟩, .bool false]⟩) ∧ Has 0 w0 W' R := by
  refine enter Tryd.func10 Tryd.ntmps10 rfl rfl fun a hs => ?_
  repeat (first | (refine sxv hs hw ?_; clear hs; intro a hs) | refine sxc hs ?_ | (refine sxa hs hw ?_; clear hs hw; intro a b W hw hs) | (refine sxs hs hw ?_; clear hs hw; intro W hs hw) | ((with_reducible first | refine st_ptrSome hs (k := ?_) | refine st_ptrNone hs (k := ?_)); clear hs; intro a hs))
  refine st_call hs (hc := fold_LastNil c _) (k := ?_); rintro e0 W1 ⟨rfl, hb⟩; refine ⟨_, rfl, ?_⟩; clear hs; intro a hs; replace hw := hw.below hb; clear hb
  repeat (first | (refine sxv hs hw ?_; clear hs; intro a hs) | refine sxc hs ?_ | (refine sxa hs hw ?_; clear hs hw; intro a b W hw hs) | (refine sxs hs hw ?_; clear hs hw; intro W hs hw) | ((with_reducible first | refine st_ptrSome hs (k := ?_) | refine st_ptrNone hs (k := ?_)); clear hs; intro a hs))
  refine rc2 hs rfl rfl hw In.hd rfl rfl ?_
  exact ⟨rfl, hw.sub (List.Sublist.cons _ (List.Sublist.refl _))⟩
abbrev on7 : OpD := ⟨2, ⟨#[107]⟩, 0, 0, ⟨#[]⟩, 0, 0, ⟨#[]⟩, 0⟩
theorem dec_none7 : decF [] = none := by kernel_rfl
set_option maxHeartbeats 16000000 in
theorem walk_FoldNone (w : World) (hT : Tabs w) :
    Calls Tryd.prog 4 ⟨[]⟩ w fun e w' => e = .returned (.bool true) ∧ Below w.heap.size w w' := by
  have hw := Has.startF w
  refine enter Tryd.func4 Tryd.ntmps4 rfl rfl fun a hs => ?_
  repeat (first | (refine sxv hs hw ?_; clear hs; intro a hs) | refine sxc hs ?_ | (refine sxa hs hw ?_; clear hs hw; intro a b W hw hs) | (refine sxs hs hw ?_; clear hs hw; intro W hs hw))
  refine st_call hs (hc := fold_NextNil w _ ⟨1, 1, [on7]⟩ _ _ ⟨_, _, rfl⟩ hw) (k := ?_); rintro e0 W1 ⟨rfl, hw1⟩; refine ⟨_, rfl, ?_⟩; clear hs hw; intro a hs; have hw := hw1; clear hw1
  repeat (first | (refine sxv hs hw ?_; clear hs; intro a hs) | refine sxc hs ?_ | (refine sxa hs hw ?_; clear hs hw; intro a b W hw hs) | (refine sxs hs hw ?_; clear hs hw; intro W hs hw))
  refine st_call hs (hc := fold_ToldNil w _ 1 _ hw) (k := ?_); rintro e0 W1 ⟨rfl, hw1⟩; refine ⟨_, rfl, ?_⟩; clear hs hw; intro a hs; have hw := hw1; clear hw1
  repeat (first | (refine sxv hs hw ?_; clear hs; intro a hs) | refine sxc hs ?_ | (refine sxa hs hw ?_; clear hs hw; intro a b W hw hs) | (refine sxs hs hw ?_; clear hs hw; intro W hs hw))
  replace hw : Has 0 w _ (Fz (fr w) :: []) := hw.sel (by repeat (first | exact Sel.nil | exact Sel.refl _ | refine Sel.cons (by repeat (first | exact Pick.hd | apply Pick.tl)) ?_ | refine Sel.skip ?_))
  refine st_call hs (hc := fold_Decode w _ (fr w) [] _ _ (by simp) (RdH.nil _ _ _ (by omega)) (Fh.le.refl _) hT hw) (k := ?_); rintro e0 W1 ⟨H1, hle1, (⟨_, rfl, hw1⟩ | ⟨f, p, hdd, rfl, hw1⟩)⟩
  rotate_left
  · rw [dec_none7] at hdd; cases hdd
  refine ⟨_, rfl, ?_⟩; clear hs hw; intro a hs; have hw := hw1; clear hw1
  repeat (first | (refine sxv hs hw ?_; clear hs; intro a hs) | refine sxc hs ?_ | (refine sxa hs hw ?_; clear hs hw; intro a b W hw hs) | (refine sxs hs hw ?_; clear hs hw; intro W hs hw))
  refine st_call hs (hc := law7_begun _ (hT.keep (hw.endF (by repeat (first | exact In.hd | apply In.tl)) hle1))) (k := ?_); rintro e0 W1 ⟨rfl, hb⟩; refine ⟨_, rfl, ?_⟩; clear hs; intro a hs; replace hw := hw.below hb; clear hb
  repeat (first | (refine sxv hs hw ?_; clear hs; intro a hs) | refine sxc hs ?_ | (refine sxa hs hw ?_; clear hs hw; intro a b W hw hs) | (refine sxs hs hw ?_; clear hs hw; intro W hs hw))
  refine st_call hs (hc := fold_PlaceNil _) (k := ?_); rintro e0 W1 ⟨rfl, hb⟩; refine ⟨_, rfl, ?_⟩; clear hs; intro a hs; replace hw := hw.below hb; clear hb
  repeat (first | (refine sxv hs hw ?_; clear hs; intro a hs) | refine sxc hs ?_ | (refine sxa hs hw ?_; clear hs hw; intro a b W hw hs) | (refine sxs hs hw ?_; clear hs hw; intro W hs hw))
  refine st_call hs (hc := fold_LastNil 1 _) (k := ?_); rintro e0 W1 ⟨rfl, hb⟩; refine ⟨_, rfl, ?_⟩; clear hs; intro a hs; replace hw := hw.below hb; clear hb
  repeat (first | (refine sxv hs hw ?_; clear hs; intro a hs) | refine sxc hs ?_ | (refine sxa hs hw ?_; clear hs hw; intro a b W hw hs) | (refine sxs hs hw ?_; clear hs hw; intro W hs hw))
  refine st_call hs (hc := fold_New w _ H1 _ hw) (k := ?_); rintro e0 W1 ⟨p, rfl, hw1⟩; refine ⟨_, rfl, ?_⟩; clear hs hw; intro a hs; have hw := hw1; clear hw1
  repeat (first | (refine sxv hs hw ?_; clear hs; intro a hs) | refine sxc hs ?_ | (refine sxa hs hw ?_; clear hs hw; intro a b W hw hs) | (refine sxs hs hw ?_; clear hs hw; intro W hs hw))
  replace hw : Has 0 w _ (Fz H1 :: FoldAt H1 p emptyF :: []) := hw.swap2
  refine st_call hs (hc := fold_New w _ H1 _ hw) (k := ?_); rintro e0 W1 ⟨q, rfl, hw1⟩; refine ⟨_, rfl, ?_⟩; clear hs hw; intro a hs; have hw := hw1; clear hw1
  repeat (first | (refine sxv hs hw ?_; clear hs; intro a hs) | refine sxc hs ?_ | (refine sxa hs hw ?_; clear hs hw; intro a b W hw hs) | (refine sxs hs hw ?_; clear hs hw; intro W hs hw))
  refine st_call hs (hc := fold_Eq w _ H1 p q emptyF emptyF [] FoldFine.empty FoldFine.empty hle1 hT (hw.perm (by repeat (first | exact List.Perm.refl _ | refine perm_pick (by repeat (first | exact Pick.hd | apply Pick.tl)) ?_)))) (k := ?_); rw [beq_self_eq_true]; rintro e0 W1 ⟨rfl, hw1⟩; refine ⟨_, rfl, ?_⟩; clear hs hw; intro a hs; have hw := hw1; clear hw1
  repeat (first | (refine sxv hs hw ?_; clear hs; intro a hs) | refine sxc hs ?_ | (refine sxa hs hw ?_; clear hs hw; intro a b W hw hs) | (refine sxs hs hw ?_; clear hs hw; intro W hs hw))
  exact rt1 hs rfl rfl ⟨rfl, hw.endF (by repeat (first | exact In.hd | apply In.tl)) hle1⟩
end Go.Proofs.YtmalklakaalaoaaDoor.Sw

set_option linter.unusedVariables false
set_option maxRecDepth 10000
namespace Go.Proofs.YtmalklakaalaoaaDoor
open Go.ChangeShapes Go.WideShapes Go.ChangeAt Go.RowKit Go.Lib Go.Sx Go.Proofs Go.Deep
open Sw Go.Joins
section
variable {H : Type} {enc : TypeId × Value → H} {w : World} {base : Nat} {spare : Nat → Bool} {held : Bool}
instance : Inhabited OpD := ⟨⟨0, ⟨#[]⟩, 0, 0, ⟨#[]⟩, 0, 0, ⟨#[]⟩, 0⟩⟩
end
end Go.Proofs.YtmalklakaalaoaaDoor

set_option linter.unusedVariables false
namespace Go.Proofs.YtmalklakaalaoaaDoor.Sw
open Go.RowKit Go.Sx
def IntIn (x : Int) (c : List Value) : Prop := c = [.int .i64 x]
theorem IntIn.len : ∀ (x : Int) (c : List Value), IntIn x c → c.length = 1 := by rintro x c rfl; rfl
def IntsRd (W : World) (v : Value) (l : List Int) : Prop := ∃ xs, Rd W 1 v l.length xs ∧ Ch IntIn l xs
end Go.Proofs.YtmalklakaalaoaaDoor.Sw
