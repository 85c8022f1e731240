/-
  Texts of the proof, one behind the other (part 3).
-/
import Derived.Test.YtgpbngfehfbndaaGreatDoorM1
import Derived.Test.YtgpbngfehfbndaaGreatDoorM2
import Derived.Deep.RegionHeld3
import Derived.WalkKit
import Derived.WalkLawsBesides
import Derived.Laws.IdiomStrings
import Derived.Lib.UnsafeStr
import Derived.Lib.RuneBytes
import Derived.Deep.AppendLies
import Derived.Deep.Draws
import Derived.WalkSpells
import Derived.Lib.Hide
import Derived.Deep.QuietTactic
import Derived.BigQuiet
import Derived.Laws.StructEq
set_option maxHeartbeats 16000000
set_option linter.unusedVariables false
namespace Go.Proofs.YtgpbngfehfbndaaGreatDoor
open Go.RowKit
def dL:Option (Int ⊕ ByteArray)→Value
 |none=> .nilIface
 |some (.inl n)=> .iface 261 (.int .i64 n)
 |some (.inr s)=> .iface 262 (.string s)
def bU (k n:Int) (s:ByteArray):Option (Int ⊕ ByteArray)×Int:=
 if k=0∧n=0∧s.size=0 then (none,0)
 else if k=1∧s.size=0 then (some (.inl n),0)
 else if k=2∧n=0∧s.size≤200∧Lib.validD s.data.toList=true then (some (.inr s),0)
 else (none,1)
set_option maxRecDepth 100000 in
theorem aE3 (s:ByteArray) (h:¬0<s.size) (w:World) (hs:s.size≤9223372036854775807):
  Calls Tryz.prog 274 #[.agg #[.int .i64 0,.int .i64 0,.string s]] w fun e w'=>e= .returned (.tuple #[.agg #[dL (bU 0 0 s).1],.int .i64 (bU 0 0 s).2])∧Below w.heap.size w w':=by
 have HF:Hid (bU 0 0 s=(none,0)):=by
  show _=_
  unfold bU;rw [if_pos ⟨rfl,rfl,by omega⟩]
 have ex:=Ph.empty_yes h
 go_enter Tryz.func274,Tryz.ntmps274
 go_wp2
 refine bodyPost_ret (v:= .tuple #[.agg #[.nilIface],.int .i64 0]) (by simp [results,Tryz.results274,go_sem]) rfl ⟨?_,?_⟩
 ·rw [HF.out]
  rfl
 ·exact ((Below.refl _ _).alloc (Nat.le_refl _) _).alloc (by simp) _
set_option maxRecDepth 100000 in
theorem aE4 (n:Int) (s:ByteArray) (h:¬0<s.size) (w:World) (hs:s.size≤9223372036854775807):
  Calls Tryz.prog 274 #[.agg #[.int .i64 1,.int .i64 n,.string s]] w fun e w'=>e= .returned (.tuple #[.agg #[dL (bU 1 n s).1],.int .i64 (bU 1 n s).2])∧Below w.heap.size w w':=by
 have HF:Hid (bU 1 n s=(some (.inl n),0)):=by
  show _=_
  unfold bU;rw [if_neg (by omega),if_pos ⟨rfl,by omega⟩]
 have ex:=Ph.empty_yes h
 go_enter Tryz.func274,Tryz.ntmps274
 go_wp2
 refine bodyPost_ret (v:= .tuple #[.agg #[.iface 261 (.int .i64 n)],.int .i64 0]) (by simp [results,Tryz.results274,go_sem]) rfl ⟨?_,?_⟩
 ·rw [HF.out]
  rfl
 ·exact ((Below.refl _ _).alloc (Nat.le_refl _) _).alloc (by simp) _
set_option maxRecDepth 100000 in
theorem aE5 (n:Int) (s:ByteArray) (h:n≠0) (w:World) (hs:s.size≤9223372036854775807):
  Calls Tryz.prog 274 #[.agg #[.int .i64 0,.int .i64 n,.string s]] w fun e w'=>e= .returned (.tuple #[.agg #[dL (bU 0 n s).1],.int .i64 (bU 0 n s).2])∧Below w.heap.size w w':=by
 have HF:Hid (bU 0 n s=(none,1)):=by
  show _=_
  unfold bU;rw [if_neg (by omega),if_neg (by omega),if_neg (by omega)]
 have h':(n == 0)=false:=by simpa using h
 clear h
 go_enter Tryz.func274,Tryz.ntmps274
 go_wp2
 refine bodyPost_ret (v:= .tuple #[.agg #[.nilIface],.int .i64 1]) (by simp [results,Tryz.results274,go_sem]) rfl ⟨?_,?_⟩
 ·rw [HF.out]
  rfl
 ·exact ((Below.refl _ _).alloc (Nat.le_refl _) _).alloc (by simp) _
set_option maxRecDepth 100000 in
theorem aE6 (s:ByteArray) (h:0<s.size) (w:World) (hs:s.size≤9223372036854775807):
  Calls Tryz.prog 274 #[.agg #[.int .i64 0,.int .i64 0,.string s]] w fun e w'=>e= .returned (.tuple #[.agg #[dL (bU 0 0 s).1],.int .i64 (bU 0 0 s).2])∧Below w.heap.size w w':=by
 have HF:Hid (bU 0 0 s=(none,1)):=by
  show _=_
  unfold bU;rw [if_neg (by omega),if_neg (by omega),if_neg (by omega)]
 have ex:=Ph.empty_no h
 go_enter Tryz.func274,Tryz.ntmps274
 go_wp2
 refine bodyPost_ret (v:= .tuple #[.agg #[.nilIface],.int .i64 1]) (by simp [results,Tryz.results274,go_sem]) rfl ⟨?_,?_⟩
 ·rw [HF.out]
  rfl
 ·exact ((Below.refl _ _).alloc (Nat.le_refl _) _).alloc (by simp) _
set_option maxRecDepth 100000 in
theorem aE7 (n:Int) (s:ByteArray) (h:0<s.size) (w:World) (hs:s.size≤9223372036854775807):
  Calls Tryz.prog 274 #[.agg #[.int .i64 1,.int .i64 n,.string s]] w fun e w'=>e= .returned (.tuple #[.agg #[dL (bU 1 n s).1],.int .i64 (bU 1 n s).2])∧Below w.heap.size w w':=by
 have HF:Hid (bU 1 n s=(none,1)):=by
  show _=_
  unfold bU;rw [if_neg (by omega),if_neg (by omega),if_neg (by omega)]
 have ex:=Ph.empty_no h
 go_enter Tryz.func274,Tryz.ntmps274
 go_wp2
 refine bodyPost_ret (v:= .tuple #[.agg #[.nilIface],.int .i64 1]) (by simp [results,Tryz.results274,go_sem]) rfl ⟨?_,?_⟩
 ·rw [HF.out]
  rfl
 ·exact ((Below.refl _ _).alloc (Nat.le_refl _) _).alloc (by simp) _
set_option maxRecDepth 100000 in
theorem aE8 (n:Int) (s:ByteArray) (h:n≠0) (w:World) (hs:s.size≤9223372036854775807):
  Calls Tryz.prog 274 #[.agg #[.int .i64 2,.int .i64 n,.string s]] w fun e w'=>e= .returned (.tuple #[.agg #[dL (bU 2 n s).1],.int .i64 (bU 2 n s).2])∧Below w.heap.size w w':=by
 have HF:Hid (bU 2 n s=(none,1)):=by
  show _=_
  unfold bU;rw [if_neg (by omega),if_neg (by omega),if_neg (by omega)]
 have h':(n == 0)=false:=by simpa using h
 clear h
 go_enter Tryz.func274,Tryz.ntmps274
 go_wp2
 refine bodyPost_ret (v:= .tuple #[.agg #[.nilIface],.int .i64 1]) (by simp [results,Tryz.results274,go_sem]) rfl ⟨?_,?_⟩
 ·rw [HF.out]
  rfl
 ·exact ((Below.refl _ _).alloc (Nat.le_refl _) _).alloc (by simp) _
set_option maxRecDepth 100000 in
theorem aE9 (s:ByteArray) (h:200<s.size) (w:World) (hs:s.size≤9223372036854775807):
  Calls Tryz.prog 274 #[.agg #[.int .i64 2,.int .i64 0,.string s]] w fun e w'=>e= .returned (.tuple #[.agg #[dL (bU 2 0 s).1],.int .i64 (bU 2 0 s).2])∧Below w.heap.size w w':=by
 have HF:Hid (bU 2 0 s=(none,1)):=by
  show _=_
  unfold bU;rw [if_neg (by omega),if_neg (by omega),if_neg (by omega)]
 have h':(200:Int)<(s.size:Int):=by omega
 go_enter Tryz.func274,Tryz.ntmps274
 go_wp2
 refine bodyPost_ret (v:= .tuple #[.agg #[.nilIface],.int .i64 1]) (by simp [results,Tryz.results274,go_sem]) rfl ⟨?_,?_⟩
 ·rw [HF.out]
  rfl
 ·exact ((Below.refl _ _).alloc (Nat.le_refl _) _).alloc (by simp) _
set_option maxRecDepth 100000 in
theorem aEa (s:ByteArray) (h:s.size≤200) (hv:Lib.validD s.data.toList=false) (w:World) (hs:s.size≤9223372036854775807) (hT:Tabs w):
  Calls Tryz.prog 274 #[.agg #[.int .i64 2,.int .i64 0,.string s]] w fun e w'=>e= .returned (.tuple #[.agg #[dL (bU 2 0 s).1],.int .i64 (bU 2 0 s).2])∧Below w.heap.size w w':=by
 have HF:Hid (bU 2 0 s=(none,1)):=by
  show _=_
  unfold bU;rw [if_neg (by omega),if_neg (by omega),if_neg (by rw [hv];simp)]
 have h':(s.size:Int)≤200:=by omega
 go_enter Tryz.func274,Tryz.ntmps274
 go_wp2_with fail
 refine (uE _ _ hs (hT.keep (((Below.refl _ _).alloc (Nat.le_refl _) _).alloc (by simp) _))).mono ?_
 rintro e w1 ⟨rfl,hb⟩
 rw [hv]
 clear hv
 have hz:=hb.size
 have h1:w1.cell? ⟨w.heap.size,0,none⟩=some (.int .i64 2):=by rw [hb.cell (p:=⟨w.heap.size,0,none⟩) (by simp;omega)];simp [go_sem]
 have h2:w1.cell? ⟨w.heap.size,2,none⟩=some (.string s):=by rw [hb.cell (p:=⟨w.heap.size,2,none⟩) (by simp;omega)];simp [go_sem]
 have h3:w1.cell? ⟨w.heap.size+1,0,none⟩=some .nilIface:=by rw [hb.cell (p:=⟨w.heap.size+1,0,none⟩) (by simp)];simp [go_sem]
 have h4:w1.frozen? ⟨w.heap.size+1,0,none⟩=false:=by rw [hb.frozen (p:=⟨w.heap.size+1,0,none⟩) (by simp)];simp [go_sem]
 have h6:∀u,(w1.setCell ⟨w.heap.size+1,0,none⟩ u).cell? ⟨w.heap.size+1,0,none⟩=some u:=fun u=>World.cell?_setCell_same _ _ _ h3
 have h5:w.heap.size+1<w1.heap.size:=by simp at hz;omega
 go_wp2
 refine bodyPost_ret (v:= .tuple #[.agg #[.nilIface],.int .i64 1]) (by simp [results,Tryz.results274,go_sem,h6]) rfl ⟨?_,?_⟩
 ·rw [HF.out]
  rfl
 ·exact ((((Below.refl w.heap.size w).alloc (Nat.le_refl _) _).alloc (by simp) _).trans (hb.mono (by simp;omega))).setCell (by simp) _
set_option maxRecDepth 100000 in
theorem aEb (s:ByteArray) (h:s.size≤200) (hv:Lib.validD s.data.toList=true) (w:World) (hs:s.size≤9223372036854775807) (hT:Tabs w):
  Calls Tryz.prog 274 #[.agg #[.int .i64 2,.int .i64 0,.string s]] w fun e w'=>e= .returned (.tuple #[.agg #[dL (bU 2 0 s).1],.int .i64 (bU 2 0 s).2])∧Below w.heap.size w w':=by
 have HF:Hid (bU 2 0 s=(some (.inr s),0)):=by
  show _=_
  unfold bU;rw [if_neg (by omega),if_neg (by omega),if_pos ⟨rfl,rfl,h,hv⟩]
 have h':(s.size:Int)≤200:=by omega
 go_enter Tryz.func274,Tryz.ntmps274
 go_wp2_with fail
 refine (uE _ _ hs (hT.keep (((Below.refl _ _).alloc (Nat.le_refl _) _).alloc (by simp) _))).mono ?_
 rintro e w1 ⟨rfl,hb⟩
 rw [hv]
 clear hv
 have hz:=hb.size
 have h1:w1.cell? ⟨w.heap.size,0,none⟩=some (.int .i64 2):=by rw [hb.cell (p:=⟨w.heap.size,0,none⟩) (by simp;omega)];simp [go_sem]
 have h2:w1.cell? ⟨w.heap.size,2,none⟩=some (.string s):=by rw [hb.cell (p:=⟨w.heap.size,2,none⟩) (by simp;omega)];simp [go_sem]
 have h3:w1.cell? ⟨w.heap.size+1,0,none⟩=some .nilIface:=by rw [hb.cell (p:=⟨w.heap.size+1,0,none⟩) (by simp)];simp [go_sem]
 have h4:w1.frozen? ⟨w.heap.size+1,0,none⟩=false:=by rw [hb.frozen (p:=⟨w.heap.size+1,0,none⟩) (by simp)];simp [go_sem]
 have h6:∀u,(w1.setCell ⟨w.heap.size+1,0,none⟩ u).cell? ⟨w.heap.size+1,0,none⟩=some u:=fun u=>World.cell?_setCell_same _ _ _ h3
 have h5:w.heap.size+1<w1.heap.size:=by simp at hz;omega
 go_wp2
 refine bodyPost_ret (v:= .tuple #[.agg #[.iface 262 (.string s)],.int .i64 0]) (by simp [results,Tryz.results274,go_sem,h6]) rfl ⟨?_,?_⟩
 ·rw [HF.out]
  rfl
 ·exact ((((Below.refl w.heap.size w).alloc (Nat.le_refl _) _).alloc (by simp) _).trans (hb.mono (by simp;omega))).setCell (by simp) _
set_option maxRecDepth 100000 in
theorem aEc (k n:Int) (s:ByteArray) (h0:k≠0) (h1:k≠1) (h2:k≠2) (w:World) (hs:s.size≤9223372036854775807):
  Calls Tryz.prog 274 #[.agg #[.int .i64 k,.int .i64 n,.string s]] w fun e w'=>e= .returned (.tuple #[.agg #[dL (bU k n s).1],.int .i64 (bU k n s).2])∧Below w.heap.size w w':=by
 have HF:Hid (bU k n s=(none,1)):=by
  show _=_
  unfold bU;rw [if_neg (by omega),if_neg (by omega),if_neg (by omega)]
 have h0':(k == 0)=false:=by simpa using h0
 have h1':(k == 1)=false:=by simpa using h1
 have h2':(k == 2)=false:=by simpa using h2
 clear h0 h1 h2
 go_enter Tryz.func274,Tryz.ntmps274
 go_wp2
 refine bodyPost_ret (v:= .tuple #[.agg #[.nilIface],.int .i64 1]) (by simp [results,Tryz.results274,go_sem]) rfl ⟨?_,?_⟩
 ·rw [HF.out]
  rfl
 ·exact ((Below.refl _ _).alloc (Nat.le_refl _) _).alloc (by simp) _
theorem lI (k n:Int) (s:ByteArray) (w:World) (hs:s.size≤9223372036854775807) (hT:Tabs w):
  Calls Tryz.prog 274 #[.agg #[.int .i64 k,.int .i64 n,.string s]] w fun e w'=>e= .returned (.tuple #[.agg #[dL (bU k n s).1],.int .i64 (bU k n s).2])∧Below w.heap.size w w':=by
 by_cases k0:k=0
 ·subst k0
  by_cases n0:n=0
  ·subst n0
   by_cases s0:0<s.size
   ·exact aE6 s s0 w hs
   ·exact aE3 s s0 w hs
  ·exact aE5 n s n0 w hs
 by_cases k1:k=1
 ·subst k1
  by_cases s0:0<s.size
  ·exact aE7 n s s0 w hs
  ·exact aE4 n s s0 w hs
 by_cases k2:k=2
 ·subst k2
  by_cases n0:n=0
  ·subst n0
   by_cases sl:s.size≤200
   ·cases hv:Lib.validD s.data.toList
    ·exact aEa s sl hv w hs hT
    ·exact aEb s sl hv w hs hT
   ·exact aE9 s (by omega) w hs
  ·exact aE8 n s n0 w hs
 exact aEc k n s k0 k1 k2 w hs
def gA:Option (Int ⊕ ByteArray)→Int
 |none=>0
 |some (.inl _)=>1
 |some (.inr _)=>2
def fE:Option (Int ⊕ ByteArray)→Int
 |some (.inl n)=>n
 |_=>0
def mF:Option (Int ⊕ ByteArray)→Bool
 |some (.inl _)=>true
 |_=>false
def mG:Option (Int ⊕ ByteArray)→ByteArray
 |some (.inr s)=>s
 |_=>⟨#[]⟩
theorem ta1 (w:World):(Instr.typeAssert .nilIface 172 261 true).run Tryz.prog w= .ok (.tuple #[.int .i64 0,.bool false]) w:=by kernel_rfl
theorem ta2 (n:Int) (w:World):(Instr.typeAssert (.iface 261 (.int .i64 n)) 172 261 true).run Tryz.prog w= .ok (.tuple #[.int .i64 n,.bool true]) w:=by kernel_rfl
theorem ta3 (s:ByteArray) (w:World):(Instr.typeAssert (.iface 262 (.string s)) 172 261 true).run Tryz.prog w= .ok (.tuple #[.int .i64 0,.bool false]) w:=by kernel_rfl
theorem tb1 (w:World):(Instr.typeAssert .nilIface 172 262 true).run Tryz.prog w= .ok (.tuple #[.string ⟨#[]⟩,.bool false]) w:=by kernel_rfl
theorem tb2 (n:Int) (w:World):(Instr.typeAssert (.iface 261 (.int .i64 n)) 172 262 true).run Tryz.prog w= .ok (.tuple #[.string ⟨#[]⟩,.bool false]) w:=by kernel_rfl
theorem tb3 (s:ByteArray) (w:World):(Instr.typeAssert (.iface 262 (.string s)) 172 262 true).run Tryz.prog w= .ok (.tuple #[.string s,.bool true]) w:=by kernel_rfl
theorem me1 (n:Int) (w:World):(method 517 261 (.int .i64 n) "packhorse/value.kind").run Tryz.prog w= .ok (354,.int .i64 n) w:=by kernel_rfl
theorem me2 (s:ByteArray) (w:World):(method 517 262 (.string s) "packhorse/value.kind").run Tryz.prog w= .ok (355,.string s) w:=by kernel_rfl
theorem aEd (n:Int) (w:World):Calls Tryz.prog 354 #[.int .i64 n] w fun e w'=>e= .returned (.int .i64 1)∧w=w':=by
 go_enter Tryz.func354,Tryz.ntmps354
 go_wp2
 go_ret
 exact ⟨rfl,rfl⟩
theorem aEe (s:ByteArray) (w:World):Calls Tryz.prog 355 #[.string s] w fun e w'=>e= .returned (.int .i64 2)∧w=w':=by
 go_enter Tryz.func355,Tryz.ntmps355
 go_wp2
 go_ret
 exact ⟨rfl,rfl⟩
theorem aEf (w:World):
  Calls Tryz.prog 175 #[.agg #[.nilIface]] w fun e w'=>e= .returned (.int .i64 0)∧Below w.heap.size w w':=by
 have t1:=ta1
 have t2:=tb1
 go_enter Tryz.func175,Tryz.ntmps175
 go_wp2_with fail
 go_ret
 exact ⟨rfl,(Below.refl _ _).alloc (Nat.le_refl _) _⟩
theorem aEg (w:World):
  Calls Tryz.prog 276 #[.agg #[.nilIface]] w fun e w'=>e= .returned (.tuple #[.int .i64 0,.bool false])∧Below w.heap.size w w':=by
 have t1:=ta1
 have t2:=tb1
 go_enter Tryz.func276,Tryz.ntmps276
 go_wp2
 go_ret2
 exact ⟨rfl,(Below.refl _ _).alloc (Nat.le_refl _) _⟩
theorem aEh (w:World):
  Calls Tryz.prog 100 #[.agg #[.nilIface]] w fun e w'=>e= .returned (.agg #[.int .i64 0,.int .i64 0,.string ⟨#[]⟩])∧Below w.heap.size w w':=by
 have t1:=ta1
 have t2:=tb1
 go_enter Tryz.func100,Tryz.ntmps100
 go_wp2
 refine bodyPost_ret (v:= .agg #[.int .i64 0,.int .i64 0,.string ⟨#[]⟩]) (by simp [results,Tryz.results100,go_sem]) rfl ⟨rfl,?_⟩
 exact ((Below.refl _ _).alloc (Nat.le_refl _) _).alloc (by simp) _
theorem aEi (n:Int) (w:World):
  Calls Tryz.prog 175 #[.agg #[.iface 261 (.int .i64 n)]] w fun e w'=>e= .returned (.int .i64 1)∧Below w.heap.size w w':=by
 have t1:=ta2 n
 have t2:=tb2 n
 have t3:=me1 n
 go_enter Tryz.func175,Tryz.ntmps175
 go_wp2_with (go_at_call 354;refine (aEd _ _).mono ?_;rintro e w' ⟨rfl,rfl⟩)
 go_ret
 exact ⟨rfl,(Below.refl _ _).alloc (Nat.le_refl _) _⟩
theorem aEj (n:Int) (w:World):
  Calls Tryz.prog 276 #[.agg #[.iface 261 (.int .i64 n)]] w fun e w'=>e= .returned (.tuple #[.int .i64 n,.bool true])∧Below w.heap.size w w':=by
 have t1:=ta2 n
 have t2:=tb2 n
 have t3:=me1 n
 go_enter Tryz.func276,Tryz.ntmps276
 go_wp2
 go_ret2
 exact ⟨rfl,(Below.refl _ _).alloc (Nat.le_refl _) _⟩
theorem aEk (n:Int) (w:World):
  Calls Tryz.prog 100 #[.agg #[.iface 261 (.int .i64 n)]] w fun e w'=>e= .returned (.agg #[.int .i64 1,.int .i64 n,.string ⟨#[]⟩])∧Below w.heap.size w w':=by
 have t1:=ta2 n
 have t2:=tb2 n
 have t3:=me1 n
 go_enter Tryz.func100,Tryz.ntmps100
 go_wp2
 refine bodyPost_ret (v:= .agg #[.int .i64 1,.int .i64 n,.string ⟨#[]⟩]) (by simp [results,Tryz.results100,go_sem]) rfl ⟨rfl,?_⟩
 exact ((Below.refl _ _).alloc (Nat.le_refl _) _).alloc (by simp) _
theorem aEl (s:ByteArray) (w:World):
  Calls Tryz.prog 175 #[.agg #[.iface 262 (.string s)]] w fun e w'=>e= .returned (.int .i64 2)∧Below w.heap.size w w':=by
 have t1:=ta3 s
 have t2:=tb3 s
 have t3:=me2 s
 go_enter Tryz.func175,Tryz.ntmps175
 go_wp2_with (go_at_call 355;refine (aEe _ _).mono ?_;rintro e w' ⟨rfl,rfl⟩)
 go_ret
 exact ⟨rfl,(Below.refl _ _).alloc (Nat.le_refl _) _⟩
theorem aEm (s:ByteArray) (w:World):
  Calls Tryz.prog 276 #[.agg #[.iface 262 (.string s)]] w fun e w'=>e= .returned (.tuple #[.int .i64 0,.bool false])∧Below w.heap.size w w':=by
 have t1:=ta3 s
 have t2:=tb3 s
 have t3:=me2 s
 go_enter Tryz.func276,Tryz.ntmps276
 go_wp2
 go_ret2
 exact ⟨rfl,(Below.refl _ _).alloc (Nat.le_refl _) _⟩
theorem aEn (s:ByteArray) (w:World):
  Calls Tryz.prog 100 #[.agg #[.iface 262 (.string s)]] w fun e w'=>e= .returned (.agg #[.int .i64 2,.int .i64 0,.string s])∧Below w.heap.size w w':=by
 have t1:=ta3 s
 have t2:=tb3 s
 have t3:=me2 s
 go_enter Tryz.func100,Tryz.ntmps100
 go_wp2
 refine bodyPost_ret (v:= .agg #[.int .i64 2,.int .i64 0,.string s]) (by simp [results,Tryz.results100,go_sem]) rfl ⟨rfl,?_⟩
 exact ((Below.refl _ _).alloc (Nat.le_refl _) _).alloc (by simp) _
theorem aEo (k n:Int) (s:ByteArray) (k' n':Int) (s':ByteArray) (w:World):
  (binOp .eql 53 (.agg #[.int .i64 k,.int .i64 n,.string s]) (.agg #[.int .i64 k',.int .i64 n',.string s'])).run Tryz.prog w
   = .ok (.bool ((k == k') && (n == n') && (s.toList == s'.toList))) w:=by
 have f1:Tryz.prog.stoodInHeld 53=false:=by kernel_rfl
 have f2:Tryz.prog.underlying 53=some (.struct (Tryz.prog.fieldsOf 53)):=by kernel_rfl
 rw [run_eql_struct,run_equalIn_struct _ _ _ _ _ f2 f1]
 simp only [Program.fieldsOf]
 cases hk:k == k' <;> cases hn:n == n' <;> cases hs:s.toList == s'.toList <;> simp [go_sem,Op.eqFields,part,hk,hn,hs]
theorem aAP (x:Option (Int ⊕ ByteArray)) (w:World):
  Calls Tryz.prog 100 #[.agg #[dL x]] w fun e w'=>e= .returned (.agg #[.int .i64 (gA x),.int .i64 (fE x),.string (mG x)])∧Below w.heap.size w w':=by
 rcases x with _|n|s
 ·exact aEh w
 ·exact aEk n w
 ·exact aEn s w
theorem oZ (x:Option (Int ⊕ ByteArray)) (w:World):
  Calls Tryz.prog 175 #[.agg #[dL x]] w fun e w'=>e= .returned (.int .i64 (gA x))∧Below w.heap.size w w':=by
 rcases x with _|n|s
 ·exact aEf w
 ·exact aEi n w
 ·exact aEl s w
theorem vM (x:Option (Int ⊕ ByteArray)) (w:World):
  Calls Tryz.prog 276 #[.agg #[dL x]] w fun e w'=>e= .returned (.tuple #[.int .i64 (fE x),.bool (mF x)])∧Below w.heap.size w w':=by
 rcases x with _|n|s
 ·exact aEg w
 ·exact aEj n w
 ·exact aEm s w
def eqV (x y:Option (Int ⊕ ByteArray)):Bool:=(gA x == gA y) && (fE x == fE y) && ((mG x).toList == (mG y).toList)
set_option maxRecDepth 100000 in
theorem aEp (x y:Option (Int ⊕ ByteArray)) (w:World):
  Calls Tryz.prog 275 #[.agg #[dL x],.agg #[dL y]] w fun e w'=>e= .returned (.bool (eqV x y))∧Below w.heap.size w w':=by
 have hv:=fun (x:Option (Int ⊕ ByteArray)) (W:World)=>aAP x W
 have he:=aEo (gA x) (fE x) (mG x) (gA y) (fE y) (mG y)
 unfold eqV
 generalize gA=KK at *
 generalize fE=NN at *
 generalize mG=SS at *
 generalize dL=V at *
 have HV:=Lib.hid hv
 clear hv
 go_enter Tryz.func275,Tryz.ntmps275
 go_wp2_with fail
 have hb0:Below w.heap.size w ((w.alloc (Obj.cells #[V x] 174)).alloc (Obj.cells #[V y] 174)):=((Below.refl _ _).alloc (Nat.le_refl _) _).alloc (by simp) _
 have hc1:((w.alloc (Obj.cells #[V x] 174)).alloc (Obj.cells #[V y] 174)).cell? ⟨w.heap.size,0,none⟩=some (V x):=by simp [go_sem]
 have hc2:((w.alloc (Obj.cells #[V x] 174)).alloc (Obj.cells #[V y] 174)).cell? ⟨w.heap.size+1,0,none⟩=some (V y):=by simp [go_sem]
 have hsz:w.heap.size+1<((w.alloc (Obj.cells #[V x] 174)).alloc (Obj.cells #[V y] 174)).heap.size:=by simp
 generalize (w.alloc (Obj.cells #[V x] 174)).alloc (Obj.cells #[V y] 174)=w1 at *
 have vE:∀(W W':World),(W.cell? ⟨w.heap.size,0,none⟩=some (V x)∧W.cell? ⟨w.heap.size+1,0,none⟩=some (V y)∧w.heap.size+1<W.heap.size∧Below w.heap.size w W)→Below W.heap.size W W'→(W'.cell? ⟨w.heap.size,0,none⟩=some (V x)∧W'.cell? ⟨w.heap.size+1,0,none⟩=some (V y)∧w.heap.size+1<W'.heap.size∧Below w.heap.size w W'):=by
  rintro W W' ⟨a,b,c,d⟩ h
  have:=h.size
  exact ⟨(h.cell (by simp;omega)).trans a,(h.cell (by simp;omega)).trans b,by omega,aE2 d h⟩
 have HK:=Lib.hid vE
 clear vE
 go_region_held3 (fun W=>W.cell? ⟨w.heap.size,0,none⟩=some (V x)∧W.cell? ⟨w.heap.size+1,0,none⟩=some (V y)∧w.heap.size+1<W.heap.size∧Below w.heap.size w W)
  (first|(refine HK.out _ _ ?_ hb9;assumption)|assumption|exact ⟨by assumption,by assumption,by assumption,by assumption⟩|exact ⟨by assumption,by assumption,by assumption,Below.drew (by assumption)⟩)
  (first|(go_at_call 100;refine (HV.out _ _).mono ?_;rintro e w9 ⟨rfl,hb9⟩))
 rename_i hHeld
 go_wp2
 go_ret
 exact ⟨rfl,hHeld.2.2.2⟩
end Go.Proofs.YtgpbngfehfbndaaGreatDoor
namespace Ph
open Go Go.Lib
def bt (s:ByteArray) (k:Nat):Nat:=(s.data.toList.getD k 0).toNat
theorem d1 (n b0 b1 b2 b3:Nat) (h:b0<128):decodeN n b0 b1 b2 b3=(b0,1):=by unfold decodeN;rw [if_pos h]
theorem d0 (n b0 b1 b2 b3:Nat) (h:128≤b0∧b0<192∨248≤b0) (h':b0<256):decodeN n b0 b1 b2 b3=(65533,1):=decodeN_bad _ _ _ _ _ (by omega)
end Ph
namespace Go.Proofs.YtgpbngfehfbndaaGreatDoor
open Go.RowKit
section
variable {P:Program} {w w':World} {base e:Nat} {v:Value} {l:List UInt8}
theorem aEq (a b:List UInt8):Lib.byteCells (a ++ b)=Lib.byteCells a ++ Lib.byteCells b:=by simp [Lib.byteCells]
theorem own_slice {size n:Nat} {xs:List Value} (h:w.ownsRow base e size v n xs):∃A c,v= .slice A n c∧n≤c∧c≤maxLen∧(0<n→∃g,A=some ⟨g,0,none⟩∧∀j,j<n*size→w.cell? ⟨g,j,none⟩=xs[j]?):=by
 rcases h.2 with ⟨rfl,rfl⟩|⟨g,cap,cur,rfl,hg,hh,hnc,hm,hsz,hx⟩
 ·exact ⟨none,0,rfl,by omega,by omega,fun h=>by omega⟩
 ·exact ⟨_,cap,rfl,hnc,hm,fun _=>⟨g,rfl,fun j hj=>h.cellAt j hj⟩⟩
theorem rS {z:Int} {c:UInt8} (h:w.ownsRow base e 1 v (l.length+1) (Lib.byteCells l ++ [.int .u8 z])) (hz:z=(c.toNat:Int)):w.ownsRow base e 1 v (l ++ [c]).length (Lib.byteCells (l ++ [c])):=by
 subst hz
 rw [aEq,List.length_append]
 exact h
end
end Go.Proofs.YtgpbngfehfbndaaGreatDoor
namespace Ph
open Go Go.Lib
end Ph
set_option maxRecDepth 10000
namespace Go.Proofs.YtgpbngfehfbndaaGreatDoor
open Go.RowKit
end Go.Proofs.YtgpbngfehfbndaaGreatDoor
namespace Go.Proofs.YtgpbngfehfbndaaGreatDoor.Sw
open Go.RowKit Go.Sx
end Go.Proofs.YtgpbngfehfbndaaGreatDoor.Sw
namespace Go.Proofs.YtgpbngfehfbndaaGreatDoor
open Go.RowKit
theorem aEr (s:ByteArray) (w:World) (hs:s.size≤9223372036854775807) (hT:Tabs w):
  Calls Tryz.prog 272 #[.string s] w fun e w'=>e= .returned (.bool (Ph.keyB s.data.toList))∧Below w.heap.size w w':=by
 have hcl:=Ph.count_le s
 go_enter Tryz.func272,Tryz.ntmps272
 go_wp2
 go_loopw [3] (fun n wr=>∃pos k:Nat,wr=w.iter s pos∧n= .int .i64 k∧k≤s.size∧Hid (k+(Ph.rs (s.data.toList.drop pos)).length=Ph.count s.data.toList)∧Hid (Ph.plainB (Ph.rs s.data.toList)=Ph.plainB (Ph.rs (s.data.toList.drop pos)))) (fun _ wr=>s.size - wr.iterPos w.heap.size)
 case atStart=>exact ⟨0,0,rfl,rfl,by omega,by unfold Hid;simp [Ph.count],by unfold Hid;simp⟩
 case round=>
  obtain ⟨pos,k,rfl,rfl,hkb,HK,HP⟩:=hrel
  by_cases hp:pos<s.size
  ·have hnx:=fun ty=>run_next_any (P:=Tryz.prog) w s pos ty hp
   have HR:Hid (Ph.rs (s.data.toList.drop pos)=Utf8.decode s pos::Ph.rs (s.data.toList.drop (pos+(Utf8.decode s pos).2))):=Ph.rs_at s pos hp
   have hk1:k+1≤s.size:=by
    have h1:=HK.out
    rw [HR.out,List.length_cons] at h1
    omega
   have bad:(Utf8.decode s pos).1<32∨(Utf8.decode s pos).1=127→Ph.keyB s.data.toList=false:=fun h=>Ph.keyB_bad (by rw [HP.out,HR.out,Ph.plainB_bad h])
   have BAD:=Lib.hid bad
   clear bad
   by_cases h32:(Utf8.decode s pos).1<32
   ·have h32':((Utf8.decode s pos).1:Int)<32:=by omega
    go_wp2
    go_ret
    exact ⟨oH (BAD.out (.inl h32)).symm,(Below.refl _ _).alloc (Nat.le_refl _) _⟩
   ·by_cases h127:(Utf8.decode s pos).1=127
    ·have h32':(32:Int)≤((Utf8.decode s pos).1:Int):=by omega
     have h127':(((Utf8.decode s pos).1:Int) == 127)=true:=by rw [beq_iff_eq];omega
     have HB:Hid (Ph.keyB s.data.toList=false):=BAD.out (.inr h127)
     clear h127
     go_wp2
     go_ret
     exact ⟨oH HB.out.symm,(Below.refl _ _).alloc (Nat.le_refl _) _⟩
    ·have h32':(32:Int)≤((Utf8.decode s pos).1:Int):=by omega
     have h127':(((Utf8.decode s pos).1:Int) == 127)=false:=by rw [beq_eq_false_iff_ne];omega
     have HG:Hid (¬((Utf8.decode s pos).1<32∨(Utf8.decode s pos).1=127)):=by show¬_;omega
     clear h127
     go_wp2
     go_roundw
     case rel=>
      refine ⟨pos+(Utf8.decode s pos).2,k+1,rfl,by go_num,hk1,?_,?_⟩
      ·have h1:=HK.out
       rw [HR.out,List.length_cons] at h1
       show _=_
       omega
      ·show _=_
       rw [HP.out,HR.out,Ph.plainB_good HG.out]
     case measure=>
      have:=Ph.width_pos s pos
      rw [World.iterPos_iter,World.iterPos_iter]
      omega
  ·have hnx:=fun ty=>run_next_end (P:=Tryz.prog) w s pos ty hp
   have hT2:Tabs (w.iter s pos):=hT.keep ((Below.refl _ _).alloc (Nat.le_refl _) _)
   have HK2:Hid (k=Ph.count s.data.toList∧Ph.plainB (Ph.rs s.data.toList)=true):=by
    have h1:=HK.out
    have h2:=HP.out
    rw [Ph.rs_end s pos hp] at h1 h2
    exact ⟨h1,h2⟩
   by_cases h1:1≤k∧k≤40
   ·obtain ⟨ha,hb'⟩:=h1
    have ha':(1:Int)≤(k:Int):=by omega
    have hb'':(k:Int)≤40:=by omega
    go_wp2_with (go_at_call 304;refine (uE _ _ hs hT2).mono ?_;rintro e w' ⟨rfl,hb⟩)
    go_ret
    refine ⟨oH ?_,((Below.refl _ _).alloc (Nat.le_refl _) (.stringIter s _)).trans (hb.mono (by simp [World.iter]))⟩
    rw [Ph.keyB_long HK2.out.2 (by rw [←HK2.out.1];omega) (by rw [←HK2.out.1];omega)]
   ·have HS:Hid (Ph.keyB s.data.toList=false):=Ph.keyB_short (by rw [←HK2.out.1];exact h1)
    by_cases ha:1≤k
    ·have ha':(1:Int)≤(k:Int):=by omega
     have hb'':(40:Int)<(k:Int):=by omega
     clear h1
     go_wp2
     go_ret
     exact ⟨oH HS.out.symm,(Below.refl _ _).alloc (Nat.le_refl _) _⟩
    ·have ha':(k:Int)<1:=by omega
     clear h1
     go_wp2
     go_ret
     exact ⟨oH HS.out.symm,(Below.refl _ _).alloc (Nat.le_refl _) _⟩
end Go.Proofs.YtgpbngfehfbndaaGreatDoor
namespace Go.Sx
open Go.RowKit
theorem kI {P:Program} {d:Nat} {xs ys:List Value} {f:Field} {fs:List Field} {W:World} {x y:Value} {b:Bool} {z:List Value} (u:Ty P f.type false z) (hn:(f.name != "_")=true) (hx:xs[f.offset]? =some x) (hy:ys[f.offset]? =some y) (he:(Op.equalIn d f.type x y).run P W= .ok b W):
  (Op.eqFields d ⟨xs⟩ ⟨ys⟩ (f::fs)).run P W=if b then (Op.eqFields d ⟨xs⟩ ⟨ys⟩ fs).run P W else .ok false W:=by
 have hn':f.name≠ "_" :=by simpa using hn
 simp only [Op.eqFields,if_pos hn',Sem.run_bind,part,u.isAgg,Result.andThen_ok,Bool.false_eq_true,if_false]
 simp only [List.getElem?_toArray,hx,hy,Sem.run_pure,Result.andThen_ok,he]
 cases b <;> simp
theorem aEs {P:Program} {T TI TN TS:TypeId} {zi zn zs:List Value} [IntTy P TI .i64] [IntTy P TN .i64] [StrTy P TS] [ui:Ty P TI false zi] [un:Ty P TN false zn] [us:Ty P TS false zs] (ht:P.underlying T=some (.struct (P.fieldsOf T))) (hp:P.stoodInHeld T=false)
  (hF:(P.fieldsOf T).toList.map (fun f=>(f.name != "_",f.offset,f.type))= [(true,0,TI),(true,1,TN),(true,2,TS)]) (k n:Int) (s:ByteArray) (k' n':Int) (s':ByteArray) (W:World):
  (Op.equalIn 10000 T (.agg ⟨[.int .i64 k,.int .i64 n,.string s]⟩) (.agg ⟨[.int .i64 k',.int .i64 n',.string s']⟩)).run P W= .ok ((k == k') && (n == n') && (s.toList == s'.toList)) W:=by
 rw [run_equalIn_agg W 9999 T _ _ ht hp]
 obtain ⟨f0,r0,e0,m0,hr0⟩:=List.map_eq_cons_iff.1 hF
 obtain ⟨f1,r1,e1,m1,hr1⟩:=List.map_eq_cons_iff.1 hr0
 obtain ⟨f2,r2,e2,m2,hr2⟩:=List.map_eq_cons_iff.1 hr1
 have hr3:=List.map_eq_nil_iff.1 hr2
 subst hr3 e2 e1
 rw [e0]
 simp only [Prod.mk.injEq] at m0 m1 m2
 obtain ⟨a0,b0,c0⟩:=m0
 obtain ⟨a1,b1,c1⟩:=m1
 obtain ⟨a2,b2,c2⟩:=m2
 rw [kI (x:= .int .i64 k) (y:= .int .i64 k') (b:=k == k') (z:=zi) (by rw [c0];exact ui) a0 (by rw [b0];rfl) (by rw [b0];rfl) (by rw [c0];exact run_equalIn_int W 9998 TI .i64 .i64 k k' (IntTy.out))]
 rw [kI (x:= .int .i64 n) (y:= .int .i64 n') (b:=n == n') (z:=zn) (by rw [c1];exact un) a1 (by rw [b1];rfl) (by rw [b1];rfl) (by rw [c1];exact run_equalIn_int W 9998 TN .i64 .i64 n n' (IntTy.out))]
 rw [kI (x:= .string s) (y:= .string s') (b:=s.toList == s'.toList) (z:=zs) (by rw [c2];exact us) a2 (by rw [b2];rfl) (by rw [b2];rfl) (by rw [c2];exact run_equalIn_string W 9998 TS s s' (StrTy.out))]
 simp only [Op.eqFields,Sem.run_pure]
 cases k == k' <;> cases n == n' <;> cases s.toList == s'.toList <;> rfl
end Go.Sx
namespace Go.Proofs.YtgpbngfehfbndaaGreatDoor.Sw
open Go.RowKit Go.Sx
def d8 (k n:Int) (s:ByteArray) (k' n':Int) (s':ByteArray):Bool:=(k == k') && (n == n') && (s.toList == s'.toList)
theorem aAQ (k n:Int) (s:ByteArray) (k' n':Int) (s':ByteArray) (W:World):
  (Op.equalIn 10000 53 (.agg ⟨[.int .i64 k,.int .i64 n,.string s]⟩) (.agg ⟨[.int .i64 k',.int .i64 n',.string s']⟩)).run Tryz.prog W= .ok (d8 k n s k' n' s') W:=
 aEs Tryz.underlying53 (by kernel_rfl) (by kernel_rfl:_= [(true,0,3),(true,1,2),(true,2,9)]) k n s k' n' s' W
section
variable {ops:Array Oper} {aD:List Oper} {Q:Exit→Act→World→Prop} {a:Act} {n:Nat} {L:List (Nat×Value)} {W:World} {d:Nat} {T S':TypeId} {p:String} {e:Array Edge} {x y:Operand} {k m k' m':Int} {s s':ByteArray}
theorem o0 (hs:Slots a n L) (hx:ev L x=some (.agg ⟨[.int .i64 k,.int .i64 m,.string s]⟩):=by with_unfolding_all exact rfl) (hy:ev L y=some (.agg ⟨[.int .i64 k',.int .i64 m',.string s']⟩):=by with_unfolding_all exact rfl) (hd:Nat.blt d n=true:=by with_unfolding_all exact rfl)
  (c:∀a',Slots a' n ((d,.bool (d8 k m s k' m' s'))::L)→wpList Tryz.prog ops Q aD a' W):wpList Tryz.prog ops Q (⟨some d,.binOp .eql 53 x y S',T,p,e,none⟩::aD) a W:=
 bO hs hd (by simp only [execOp,hs.ev hx,hs.ev hy,Sem.run_bind];rw [run_eqGuard_agg W .eql 53 x y _ _ (by kernel_rfl)];simp only [Result.andThen_ok];rw [run_eql_struct,aAQ];rfl) c
theorem vN (hs:Slots a n L) (hx:ev L x=some (.agg ⟨[.int .i64 k,.int .i64 m,.string s]⟩):=by with_unfolding_all exact rfl) (hy:ev L y=some (.agg ⟨[.int .i64 k',.int .i64 m',.string s']⟩):=by with_unfolding_all exact rfl) (hd:Nat.blt d n=true:=by with_unfolding_all exact rfl)
  (c:∀a',Slots a' n ((d,.bool (!d8 k m s k' m' s'))::L)→wpList Tryz.prog ops Q aD a' W):wpList Tryz.prog ops Q (⟨some d,.binOp .neq 53 x y S',T,p,e,none⟩::aD) a W:=
 bO hs hd (by simp only [execOp,hs.ev hx,hs.ev hy,Sem.run_bind];rw [run_eqGuard_agg W .neq 53 x y _ _ (by kernel_rfl)];simp only [Result.andThen_ok];rw [run_neq_struct,aAQ];rfl) c
end
theorem pA (x:Option (Int ⊕ ByteArray)):[dL x].all (·.oneCell')=true:=by rcases x with _|n|s <;> rfl
theorem aAR (k n:Int) (s:ByteArray) (w:World) (hs0:s.size≤9223372036854775807) (hT:Tabs w):
  Calls Tryz.prog 273 ⟨[.agg #[.int .i64 k,.int .i64 n,.string s]]⟩ w fun e w'=>e= .returned (.bool ((bU k n s).2 == 0))∧Below w.heap.size w w':=by
 have hw:=Has.start (G:=0) (w:=w) (Nat.zero_le _)
 refine enter Tryz.func273 Tryz.ntmps273 rfl rfl fun a hs=>?_
 repeat (first|(refine sxv hs hw ?_;clear hs;intro a hs)|refine sxc hs ?_|(refine sxa hs hw ?_;clear hs hw;intro a b W hw hs)|(refine sxs hs hw ?_;clear hs hw;intro W hs hw))
 refine aF hs (hc:=lI k n s _ hs0 (hT.keep (hw.end (by repeat (first|exact In.hd|apply In.tl))))) (k:=?_);rintro e0 W1 ⟨rfl,hb⟩;refine ⟨_,rfl,?_⟩;clear hs;intro a hs;replace hw:=hw.below hb;clear hb
 repeat (first|(refine sxv hs hw ?_;clear hs;intro a hs)|refine sxc hs ?_|(refine sxa hs hw ?_;clear hs hw;intro a b W hw hs)|(refine sxs hs hw ?_;clear hs hw;intro W hs hw))
 refine d6 hs (hw:=hw) (h1:=pA (bU k n s).1) (k:=?_);clear hs hw;intro W hs hw
 refine zA hs hw ?_;clear hs;intro a hs
 exact rt1 hs rfl rfl ⟨rfl,hw.end (by repeat (first|exact In.hd|apply In.tl))⟩
def eS (kind : Int) (key : ByteArray) (vk vn : Int) (vs : ByteArray) (ok on : Int) (os : ByteArray) (n : Int) : Bool :=
  Ph.keyB key.data.toList && ((bU vk vn vs).2 == 0) && ((bU ok on os).2 == 0) &&
    (if kind = 1 then !d8 vk vn vs 0 0 ⟨#[]⟩ && d8 ok on os 0 0 ⟨#[]⟩ && (n == 0)
     else if kind = 2 then d8 vk vn vs 0 0 ⟨#[]⟩ && d8 ok on os 0 0 ⟨#[]⟩ && (n == 0)
     else if kind = 3 then (!d8 vk vn vs 0 0 ⟨#[]⟩ || !d8 ok on os 0 0 ⟨#[]⟩) && (n == 0)
     else if kind = 4 then d8 vk vn vs 0 0 ⟨#[]⟩ && d8 ok on os 0 0 ⟨#[]⟩ && decide (n ≥ -1099511627776) && decide (n ≤ 1099511627776)
     else false)
theorem aAS (kind:Int) (key:ByteArray) (vk vn:Int) (vs:ByteArray) (ok on:Int) (os:ByteArray) (n:Int) (w:World) (hs0:key.size≤9223372036854775807) (hs1:vs.size≤9223372036854775807) (hs2:os.size≤9223372036854775807) (hT:Tabs w):
  Calls Tryz.prog 245 ⟨[.agg #[.int .i64 kind,.string key,.int .i64 vk,.int .i64 vn,.string vs,.int .i64 ok,.int .i64 on,.string os,.int .i64 n]]⟩ w fun e w'=>e= .returned (.bool (eS kind key vk vn vs ok on os n))∧Below w.heap.size w w':=by
 have hw:=Has.start (G:=0) (w:=w) (Nat.zero_le _)
 refine enter Tryz.func245 Tryz.ntmps245 rfl rfl fun a hs=>?_
 repeat (first|(refine sxv hs hw ?_;clear hs;intro a hs)|refine sxc hs ?_|(refine sxa hs hw ?_;clear hs hw;intro a b W hw hs)|(refine sxs hs hw ?_;clear hs hw;intro W hs hw))
 refine aF hs (hc:=aEr key _ hs0 (hT.keep (hw.end (by repeat (first|exact In.hd|apply In.tl))))) (k:=?_);rintro e0 W1 ⟨rfl,hb⟩;refine ⟨_,rfl,?_⟩;clear hs;intro a hs;replace hw:=hw.below hb;clear hb
 cases h1:(Ph.keyB key.data.toList) with
 |false=>
  rw [h1] at hs
  refine zA hs hw ?_;clear hs;intro a hs
  exact rt1 hs rfl rfl ⟨by simp [eS,h1],hw.end (by repeat (first|exact In.hd|apply In.tl))⟩
 |true=>
  rw [h1] at hs
  refine zA hs hw ?_;clear hs;intro a hs
  refine aF hs (hc:=aAR vk vn vs _ hs1 (hT.keep (hw.end (by repeat (first|exact In.hd|apply In.tl))))) (k:=?_);rintro e0 W1 ⟨rfl,hb⟩;refine ⟨_,rfl,?_⟩;clear hs;intro a hs;replace hw:=hw.below hb;clear hb
  cases h2:((bU vk vn vs).2 == 0) with
  |false=>
   rw [h2] at hs
   refine zA hs hw ?_;clear hs;intro a hs
   exact rt1 hs rfl rfl ⟨by simp [eS,h1,h2],hw.end (by repeat (first|exact In.hd|apply In.tl))⟩
  |true=>
   rw [h2] at hs
   refine zA hs hw ?_;clear hs;intro a hs
   refine aF hs (hc:=aAR ok on os _ hs2 (hT.keep (hw.end (by repeat (first|exact In.hd|apply In.tl))))) (k:=?_);rintro e0 W1 ⟨rfl,hb⟩;refine ⟨_,rfl,?_⟩;clear hs;intro a hs;replace hw:=hw.below hb;clear hb
   cases h3:((bU ok on os).2 == 0) with
   |false=>
    rw [h3] at hs
    refine zA hs hw ?_;clear hs;intro a hs
    exact rt1 hs rfl rfl ⟨by simp [eS,h1,h2,h3],hw.end (by repeat (first|exact In.hd|apply In.tl))⟩
   |true=>
    rw [h3] at hs
    repeat (first|(refine sxv hs hw ?_;clear hs;intro a hs)|refine sxc hs ?_|(refine sxa hs hw ?_;clear hs hw;intro a b W hw hs)|(refine sxs hs hw ?_;clear hs hw;intro W hs hw))
    by_cases k1:kind=1
    ·subst k1
     refine zA hs hw ?_;clear hs;intro a hs
     refine vN hs (c:=?_);clear hs;intro a hs
     cases h4:(d8 vk vn vs 0 0 ⟨#[]⟩) with
     |false=>
      rw [h4] at hs
      refine zA hs hw ?_;clear hs;intro a hs
      refine o0 hs (c:=?_);clear hs;intro a hs
      cases h5:(d8 ok on os 0 0 ⟨#[]⟩) with
      |false=>
       rw [h5] at hs
       refine zA hs hw ?_;clear hs;intro a hs
       exact rt1 hs rfl rfl ⟨by simp [eS,h1,h2,h3,h4,h5],hw.end (by repeat (first|exact In.hd|apply In.tl))⟩
      |true=>
       rw [h5] at hs
       refine zA hs hw ?_;clear hs;intro a hs
       exact rt1 hs rfl rfl ⟨by simp [eS,h1,h2,h3,h4,h5],hw.end (by repeat (first|exact In.hd|apply In.tl))⟩
     |true=>
      rw [h4] at hs
      refine zA hs hw ?_;clear hs;intro a hs
      exact rt1 hs rfl rfl ⟨by simp [eS,h1,h2,h3,h4],hw.end (by repeat (first|exact In.hd|apply In.tl))⟩
    have e1:(kind == 1)=false:=by simpa using k1
    rw [e1] at hs
    refine zA hs hw ?_;clear hs;intro a hs
    by_cases k2:kind=2
    ·subst k2
     refine zA hs hw ?_;clear hs;intro a hs
     refine o0 hs (c:=?_);clear hs;intro a hs
     cases h4:(d8 vk vn vs 0 0 ⟨#[]⟩) with
     |false=>
      rw [h4] at hs
      refine zA hs hw ?_;clear hs;intro a hs
      exact rt1 hs rfl rfl ⟨by simp [eS,h1,h2,h3,h4],hw.end (by repeat (first|exact In.hd|apply In.tl))⟩
     |true=>
      rw [h4] at hs
      refine zA hs hw ?_;clear hs;intro a hs
      refine o0 hs (c:=?_);clear hs;intro a hs
      cases h5:(d8 ok on os 0 0 ⟨#[]⟩) with
      |false=>
       rw [h5] at hs
       refine zA hs hw ?_;clear hs;intro a hs
       exact rt1 hs rfl rfl ⟨by simp [eS,h1,h2,h3,h4,h5],hw.end (by repeat (first|exact In.hd|apply In.tl))⟩
      |true=>
       rw [h5] at hs
       refine zA hs hw ?_;clear hs;intro a hs
       exact rt1 hs rfl rfl ⟨by simp [eS,h1,h2,h3,h4,h5],hw.end (by repeat (first|exact In.hd|apply In.tl))⟩
    have e2:(kind == 2)=false:=by simpa using k2
    rw [e2] at hs
    refine zA hs hw ?_;clear hs;intro a hs
    by_cases k3:kind=3
    ·subst k3
     refine zA hs hw ?_;clear hs;intro a hs
     refine vN hs (c:=?_);clear hs;intro a hs
     cases h4:(d8 vk vn vs 0 0 ⟨#[]⟩) with
     |false=>
      rw [h4] at hs
      refine zA hs hw ?_;clear hs;intro a hs
      exact rt1 hs rfl rfl ⟨by simp [eS,h1,h2,h3,h4],hw.end (by repeat (first|exact In.hd|apply In.tl))⟩
     |true=>
      rw [h4] at hs
      refine zA hs hw ?_;clear hs;intro a hs
      refine vN hs (c:=?_);clear hs;intro a hs
      cases h5:(d8 ok on os 0 0 ⟨#[]⟩) with
      |false=>
       rw [h5] at hs
       refine zA hs hw ?_;clear hs;intro a hs
       exact rt1 hs rfl rfl ⟨by simp [eS,h1,h2,h3,h4,h5],hw.end (by repeat (first|exact In.hd|apply In.tl))⟩
      |true=>
       rw [h5] at hs
       refine zA hs hw ?_;clear hs;intro a hs
       exact rt1 hs rfl rfl ⟨by simp [eS,h1,h2,h3,h4,h5],hw.end (by repeat (first|exact In.hd|apply In.tl))⟩
    have e3:(kind == 3)=false:=by simpa using k3
    rw [e3] at hs
    refine zA hs hw ?_;clear hs;intro a hs
    by_cases k4:kind=4
    ·subst k4
     refine zA hs hw ?_;clear hs;intro a hs
     refine o0 hs (c:=?_);clear hs;intro a hs
     cases h4:(d8 vk vn vs 0 0 ⟨#[]⟩) with
     |false=>
      rw [h4] at hs
      refine zA hs hw ?_;clear hs;intro a hs
      exact rt1 hs rfl rfl ⟨by simp [eS,h1,h2,h3,h4],hw.end (by repeat (first|exact In.hd|apply In.tl))⟩
     |true=>
      rw [h4] at hs
      refine zA hs hw ?_;clear hs;intro a hs
      refine o0 hs (c:=?_);clear hs;intro a hs
      cases h5:(d8 ok on os 0 0 ⟨#[]⟩) with
      |false=>
       rw [h5] at hs
       refine zA hs hw ?_;clear hs;intro a hs
       exact rt1 hs rfl rfl ⟨by simp [eS,h1,h2,h3,h4,h5],hw.end (by repeat (first|exact In.hd|apply In.tl))⟩
      |true=>
       rw [h5] at hs
       refine zA hs hw ?_;clear hs;intro a hs
       cases h6:(decide (n≥-1099511627776)) with
       |false=>
        rw [h6] at hs
        refine zA hs hw ?_;clear hs;intro a hs
        exact rt1 hs rfl rfl ⟨by simp [eS,h1,h2,h3,h4,h5,h6],hw.end (by repeat (first|exact In.hd|apply In.tl))⟩
       |true=>
        rw [h6] at hs
        refine zA hs hw ?_;clear hs;intro a hs
        exact rt1 hs rfl rfl ⟨by simp [eS,h1,h2,h3,h4,h5,h6],hw.end (by repeat (first|exact In.hd|apply In.tl))⟩
    have e4:(kind == 4)=false:=by simpa using k4
    rw [e4] at hs
    refine zA hs hw ?_;clear hs;intro a hs
    exact rt1 hs rfl rfl ⟨by simp [eS,h1,h2,h3,k1,k2,k3,k4],hw.end (by repeat (first|exact In.hd|apply In.tl))⟩
end Go.Proofs.YtgpbngfehfbndaaGreatDoor.Sw
namespace Go.Sx
theorem Has.call {w0 W W':World} {R:List Res} {r:Res} (h:Has 0 w0 W R) (k:Has 0 W W' (r::Old W 0:: [])):Has 0 w0 W' (r::R):=by
 have hb:=k.end (In.tl In.hd)
 obtain ⟨F1,a1,a2,F2,b1,b2,_⟩:=k.has
 have h1:=h.below hb
 refine ⟨h1.ext,h1.glob,F1,a1,a2,?_⟩
 exact (h.has.loc fun b hb'=>hb.block b hb'.2).mono fun b hb'=>⟨⟨hb'.1,Nat.lt_of_lt_of_le hb'.2 hb.size⟩,fun hF=>(b1 b ((b2 b (Nat.zero_le _) hb'.2).1)).2 hF⟩
theorem Has.swap2 {G:Nat} {w W:World} {r q:Res} {R:List Res} (h:Has G w W (r::q::R)):Has G w W (q::r::R):=⟨h.ext,h.glob,HasIn.swap h.has⟩
theorem Has.drop2 {G:Nat} {w W:World} {r q:Res} {R:List Res} (h:Has G w W (r::q::R)):Has G w W (r::R):=h.sub (List.Sublist.cons_cons _ (List.Sublist.cons _ (List.Sublist.refl _)))
theorem Has.own_slice {G:Nat} {w W:World} {E:TypeId} {size n:Nat} {v:Value} {xs:List Value} {R:List Res} (h:Has G w W (Own E size v n xs::R)):∃ad cap,v= .slice ad n cap:=by
 obtain ⟨_,ad,cap,e,_⟩:=h.rd_own In.hd
 exact ⟨ad,cap,e⟩
end Go.Sx
namespace Go.Proofs.YtgpbngfehfbndaaGreatDoor.Sw
open Go.RowKit Go.Sx
structure OpD where
 kind:Int
 key:ByteArray
 vk:Int
 vn:Int
 vs:ByteArray
 ok:Int
 on:Int
 os:ByteArray
 n:Int
def bT (o:OpD):List Value:=[.int .i64 o.kind,.string o.key,.int .i64 o.vk,.int .i64 o.vn,.string o.vs,.int .i64 o.ok,.int .i64 o.on,.string o.os,.int .i64 o.n]
def opB (o:OpD):List UInt8:=Ph.putI o.kind ++ Ph.putT o.key.data.toList ++ (if o.kind=3 then cU o.vk o.vn o.vs ++ cU o.ok o.on o.os else if o.kind=1 then cU o.vk o.vn o.vs else if o.kind=4 then Ph.putI o.n else [])
def iB (c q n:Int):List UInt8:=Ph.putI c ++ Ph.putI q ++ Ph.putI n
def d9 (c q:Int) (l:List OpD):List UInt8:=iB c q l.length ++ l.flatMap opB
def i64 (n:Int):Prop:= -9223372036854775808≤n∧n≤9223372036854775807
structure OpOk (o:OpD):Prop where
 kind:i64 o.kind
 vk:i64 o.vk
 vn:i64 o.vn
 ok:i64 o.ok
 on:i64 o.on
 n:i64 o.n
 key:o.key.size≤1000000
 vs:o.vs.size≤1000000
 os:o.os.size≤1000000
theorem mH (s:ByteArray):(Ph.putT s.data.toList).length≤10+s.size:=by
 have hd:s.data.toList.length=s.size:=by rw [Array.length_toList];rfl
 unfold Ph.putT
 have:=Ph.putI_length_le s.data.toList.length
 rw [List.length_append,hd]
 rw [hd] at this
 omega
theorem vO (k n:Int) (s:ByteArray):(cU k n s).length≤30+s.size:=by
 unfold cU
 have h1:=Ph.putI_length_le k
 have h2:=Ph.putI_length_le n
 have h3:=mH s
 rw [List.length_append]
 split
 ·omega
 ·split
  ·omega
  ·simp;omega
theorem aEt {o:OpD} (h:OpOk o):(opB o).length≤3200000:=by
 have h1:=Ph.putI_length_le o.kind
 have h2:=mH o.key
 have h3:=vO o.vk o.vn o.vs
 have h4:=vO o.ok o.on o.os
 have h5:=Ph.putI_length_le o.n
 have:=h.key;have:=h.vs;have:=h.os
 unfold opB
 rw [List.length_append,List.length_append]
 split
 ·rw [List.length_append];omega
 ·split
  ·omega
  ·split
   ·omega
   ·simp;omega
theorem aAT (c q n:Int):(iB c q n).length≤30:=by
 have h1:=Ph.putI_length_le c
 have h2:=Ph.putI_length_le q
 have h3:=Ph.putI_length_le n
 unfold iB
 rw [List.length_append,List.length_append];omega
theorem aEu {l:List OpD} (h:∀o∈l,OpOk o):(l.flatMap opB).length≤3200000*l.length:=by
 induction l with
 |nil=>simp
 |cons o l ih=>
  have h1:=aEt (h o (by simp))
  have h2:=ih fun x hx=>h x (by simp [hx])
  rw [List.flatMap_cons,List.length_append,List.length_cons];omega
def lJ (c q n:Int):Nat→List UInt8
 |0=>[]
 |1=>Ph.putI c
 |2=>Ph.putI c ++ Ph.putI q
 |_=>iB c q n
theorem vP (c q n:Int) (i:Nat):(lJ c q n i).length≤30:=by
 have h1:=Ph.putI_length_le c
 have h2:=Ph.putI_length_le q
 unfold lJ
 split
 ·simp
 ·omega
 ·rw [List.length_append];omega
 ·exact aAT c q n
theorem vQ:∀(l:List OpD) (i:Nat) (o:OpD),l[i]? =some o→((l.flatMap bT).drop (i*9)).take 9=bT o
 | [],i,o,h=>by simp at h
 |x::l,0,o,h=>by
  simp only [List.getElem?_cons_zero,Option.some.injEq] at h
  subst h
  rw [List.flatMap_cons,Nat.zero_mul,List.drop_zero]
  exact List.take_left' rfl
 |x::l,i+1,o,h=>by
  rw [List.getElem?_cons_succ] at h
  rw [List.flatMap_cons,show (i+1)*9=(bT x).length+i*9 from by rw [Nat.add_mul];show _=9+_;omega,List.drop_append]
  rw [List.drop_of_length_le (by omega),List.nil_append,show (bT x).length+i*9 - (bT x).length=i*9 from by omega]
  exact vQ l i o h
section
variable {ops:Array Oper} {aD:List Oper} {Q:Exit→Act→World→Prop} {a:Act} {n:Nat} {L:List (Nat×Value)} {W:World} {d:Nat} {T:TypeId} {p:String} {e:Array Edge} {x y:Operand} {v:Value} {q:IntKind}
theorem vR {l:List OpD} {i:Nat} {o:OpD} (hs:Slots a n L) (r:Rd W 9 v l.length (l.flatMap bT)) (ho:l[i]? =some o) (hx:ev L x=some v:=by with_unfolding_all exact rfl) (hy:ev L y=some (.int q (i:Int)):=by with_unfolding_all exact rfl) (hd:Nat.blt d n=true:=by with_unfolding_all exact rfl)
  (c:∀a' b off,(∀j u,(bT o)[j]? =some u→W.cell? ⟨b,off+j,none⟩=some u)→Slots a' n ((d,.pointer (some ⟨b,off,none⟩))::L)→wpList Tryz.prog ops Q aD a' W):wpList Tryz.prog ops Q (⟨some d,.indexAddr 64 x y,T,p,e,none⟩::aD) a W:=by
 have hi:i<l.length:=(List.getElem?_eq_some_iff.1 ho).1
 refine uL (z:=bT ⟨0,⟨#[]⟩,0,0,⟨#[]⟩,0,0,⟨#[]⟩,0⟩) hs hx hy r (by omega) (by omega) hd fun a' b off h1 h2 h3=>c a' b off (fun j u hu=>h1 j u ?_) h3
 rw [fX,Int.toNat_natCast]
 exact (congrArg (fun t=>t[j]?) (vQ l i o ho)).trans hu
end
theorem aAU (c q:Int) (l:List OpD) (sv:Value) (w:World) (hc:i64 c) (hq:i64 q) (hl:l.length≤100) (ho:∀o∈l,OpOk o) (r:Rd w 9 sv l.length (l.flatMap bT)):
  Calls Tryz.prog 194 ⟨[.agg ⟨[.int .i64 c,.int .i64 q,sv]⟩]⟩ w fun e w'=>∃ad cap,e= .returned (.slice ad (d9 c q l).length cap)∧Has 0 w w' (OwnB 5 (.slice ad (d9 c q l).length cap) (d9 c q l)::Old w 0:: []):=by
 have hw:=Has.start (G:=0) (w:=w) (Nat.zero_le _)
 obtain ⟨sad,scap,rfl⟩:∃ad cap,sv= .slice ad l.length cap:=by obtain ⟨_,ad,cap,e,_⟩:=r;exact ⟨ad,cap,e⟩
 refine enter Tryz.func194 Tryz.ntmps194 rfl rfl fun a hs=>?_
 repeat (first|(refine sxv hs hw ?_;clear hs;intro a hs)|refine sxc hs ?_|(refine sxa hs hw ?_;clear hs hw;intro a b W hw hs)|(refine sxs hs hw ?_;clear hs hw;intro W hs hw))
 obtain ⟨b2,q2⟩:=nm1 hw;subst q2
 obtain ⟨b1,q1⟩:=nm2 hw;subst q1
 have hw:=hw.nilB 5
 have hw:Has 0 w _ (Sx.OwnB 5 (.slice none 0 0) []:: [aA b2 [.int .i64 c,.int .i64 q,.int .i64 (l.length:Int)] 2,aA b1 [.int .i64 c,.int .i64 q,.slice sad l.length scap] 66,Old w 0]):=hw
 refine bX (σ:=Value×Nat) (fun s=>[(1,.pointer (some ⟨b1,0,none⟩)),(3,s.1),(15,.slice (some ⟨b2,0,none⟩) 3 3),(16,.int .i64 3),(17,.int .i64 s.2)]) (fun s=>OwnB 5 s.1 (lJ c q l.length s.2):: [aA b2 [.int .i64 c,.int .i64 q,.int .i64 (l.length:Int)] 2,aA b1 [.int .i64 c,.int .i64 q,.slice sad l.length scap] 66,Old w 0]) (fun s=>s.2≤3) (fun s=>3 - s.2) (.slice none 0 0,0) (by decide) hs ⟨rfl,rfl,rfl,rfl,rfl,trivial⟩ hw ?_
 clear hs hw
 rintro ⟨v,i⟩ a W hi hs hw
 simp only at hi hs hw
 refine zA hs hw ?_;clear hs;intro a hs
 obtain rfl|rfl|rfl|rfl:i=0∨i=1∨i=2∨i=3:=by omega
 ·refine zG hs ?_
  refine eG hs (h0:=by decide) (h1:=by decide) (c:=?_);clear hs;intro a hs
  refine zA hs hw ?_;clear hs;intro a hs
  refine aF hs (hc:=eJ w _ _ (lJ c q l.length 0) c _ hc.1 hc.2 (by have:=vP c q l.length 0;omega) hw) (k:=?_);rintro e0 W1 ⟨ad,cap,rfl,hw1⟩;refine ⟨_,rfl,?_⟩;clear hs hw;intro a hs;have hw:=hw1;clear hw1
  refine zA hs hw ?_;clear hs;intro a hs
  refine bR (_,1) hs hw (by show 1≤3;decide) (by show 3 - 1<3 - 0;decide) ⟨rfl,rfl,rfl,rfl,rfl,trivial⟩
 ·refine zG hs ?_
  refine eG hs (h0:=by decide) (h1:=by decide) (c:=?_);clear hs;intro a hs
  refine zA hs hw ?_;clear hs;intro a hs
  refine aF hs (hc:=eJ w _ _ (lJ c q l.length 1) q _ hq.1 hq.2 (by have:=vP c q l.length 1;omega) hw) (k:=?_);rintro e0 W1 ⟨ad,cap,rfl,hw1⟩;refine ⟨_,rfl,?_⟩;clear hs hw;intro a hs;have hw:=hw1;clear hw1
  refine zA hs hw ?_;clear hs;intro a hs
  refine bR (_,2) hs hw (by show 2≤3;decide) (by show 3 - 2<3 - 1;decide) ⟨rfl,rfl,rfl,rfl,rfl,trivial⟩
 ·refine zG hs ?_
  refine eG hs (h0:=by decide) (h1:=by decide) (c:=?_);clear hs;intro a hs
  refine zA hs hw ?_;clear hs;intro a hs
  refine aF hs (hc:=eJ w _ _ (lJ c q l.length 2) (l.length:Int) _ (by omega) (by omega) (by have:=vP c q l.length 2;omega) hw) (k:=?_);rintro e0 W1 ⟨ad,cap,rfl,hw1⟩;refine ⟨_,rfl,?_⟩;clear hs hw;intro a hs;have hw:=hw1;clear hw1
  refine zA hs hw ?_;clear hs;intro a hs
  refine bR (_,3) hs hw (by show 3≤3;decide) (by show 3 - 3<3 - 2;decide) ⟨rfl,rfl,rfl,rfl,rfl,trivial⟩
 ·
  refine zA hs hw ?_;clear hs;intro a hs
  refine bX (σ:=Value×Nat) (fun s=>[(3,s.1),(26,.slice sad l.length scap),(27,.int .i64 (l.length:Int)),(28,.int .i64 (s.2:Int))]) (fun s=>Sx.OwnB 5 s.1 (iB c q l.length ++ (l.take s.2).flatMap opB)::aA b2 [.int .i64 c,.int .i64 q,.int .i64 (l.length:Int)] 2::aA b1 [.int .i64 c,.int .i64 q,.slice sad l.length scap] 66::Old w 0:: []) (fun s=>s.2≤l.length) (fun s=>l.length - s.2) (v,0) (Nat.zero_le _) hs ⟨rfl,rfl,rfl,rfl,trivial⟩ (by rw [show (iB c q l.length ++ (l.take 0).flatMap opB)=lJ c q l.length 3 from by simp [lJ]];exact hw) ?_
  clear hs hw hi
  rintro ⟨v,i⟩ a W hi hs hw
  simp only at hi hs hw
  refine zA hs hw ?_;clear hs;intro a hs
  refine cI hs (kt:=fun hc=>?_) (kf:=fun hc=>?_)
  ·have hi':i<l.length:=by simpa using hc
   obtain ⟨o,hoi⟩:∃o,l[i]? =some o:=⟨l[i],List.getElem?_eq_getElem hi'⟩
   have hok:=ho o (List.mem_of_getElem? hoi)
   have hacc:(iB c q l.length ++ (l.take i).flatMap opB).length≤320000030:=by
    have h1:=aAT c q l.length
    have h2:=aEu (l:=l.take i) fun x hx=>ho x (List.mem_of_mem_take hx)
    rw [List.length_take] at h2
    rw [List.length_append];omega
   have hnext:iB c q l.length ++ (l.take (i+1)).flatMap opB=iB c q l.length ++ (l.take i).flatMap opB ++ opB o:=by
    rw [List.take_add_one,hoi,List.flatMap_append,List.append_assoc];simp
   generalize iB c q l.length ++ (l.take i).flatMap opB=acc at *
   have hp1:=Ph.putI_length_le o.kind
   have hp2:=mH o.key
   have hp3:=vO o.vk o.vn o.vs
   obtain ⟨hk,hvk,hvn,hok',hon,hn,hkey,hvs,hos⟩:=hok
   refine zG hs ?_
   refine vR hs (r:=hw.rd (by repeat (first|exact In.hd|apply In.tl)) hw.ext.size r) (ho:=hoi) (c:=?_);clear hs;intro a p off hpc hs
   refine eC (z:=bT ⟨0,⟨#[]⟩,0,0,⟨#[]⟩,0,0,⟨#[]⟩,0⟩) hs (hc:=hpc) (hl:=rfl) (c:=?_);clear hs;intro a hs
   obtain ⟨kind,key,vk,vn,vs,ok,on,os,n⟩:=o
   simp only at hk hvk hvn hok' hon hn hkey hvs hos hp1 hp2 hp3
   simp only [bT] at hs
   clear hpc
   repeat (first|(refine sxv hs hw ?_;clear hs;intro a hs)|refine sxc hs ?_|(refine sxa hs hw ?_;clear hs hw;intro a b W hw hs)|(refine sxs hs hw ?_;clear hs hw;intro W hs hw))
   obtain ⟨b4,q4⟩:=nm1 hw;subst q4
   have hw:Has 0 w _ (aA b4 [.int .i64 kind,.string key,.int .i64 vk,.int .i64 vn,.string vs,.int .i64 ok,.int .i64 on,.string os,.int .i64 n] 55::Sx.OwnB 5 v acc::aA b2 [.int .i64 c,.int .i64 q,.int .i64 (l.length:Int)] 2::aA b1 [.int .i64 c,.int .i64 q,.slice sad l.length scap] 66::Old w 0:: []):=hw
   have hw:=hw.swap2
   refine fL (σ:=Option Addr×Nat) (V:=fun u=>[v,.pointer (some ⟨b4,0+0,none⟩),.int .i64 kind,(.slice (u 3).1 (acc ++ Ph.putI kind).length (u 3).2),.pointer (some ⟨b4,0+1,none⟩),.string key,(.slice (u 6).1 (acc ++ Ph.putI kind ++ Ph.putT key.data.toList).length (u 6).2),(.slice (u 7).1 (acc ++ Ph.putI kind ++ Ph.putT key.data.toList).length (u 7).2)])
    (Rs:=fun u D=>(if D 7 then Sx.OwnB 5 (.slice (u 7).1 (acc ++ Ph.putI kind ++ Ph.putT key.data.toList).length (u 7).2) (acc ++ Ph.putI kind ++ Ph.putT key.data.toList) else if D 6 then Sx.OwnB 5 (.slice (u 6).1 (acc ++ Ph.putI kind ++ Ph.putT key.data.toList).length (u 6).2) (acc ++ Ph.putI kind ++ Ph.putT key.data.toList) else if D 3 then Sx.OwnB 5 (.slice (u 3).1 (acc ++ Ph.putI kind).length (u 3).2) (acc ++ Ph.putI kind) else Sx.OwnB 5 v acc)::aA b4 [.int .i64 kind,.string key,.int .i64 vk,.int .i64 vn,.string vs,.int .i64 ok,.int .i64 on,.string os,.int .i64 n] 55::aA b2 [.int .i64 c,.int .i64 q,.int .i64 (l.length:Int)] 2::aA b1 [.int .i64 c,.int .i64 q,.slice sad l.length scap] 66::Old w 0:: []) (fun _=>(none,0)) hs hw (hVu:=?vu_a) (ho:=⟨?_,?_,?_,?c3_a,?_,?_,?c6_a,?c7_a,trivial⟩) (k:=?k_a)
   case vu_a=>
    intro u u' j h
    rcases j with _|_|_|_|_|_|_|_|j
    ·rfl
    ·rfl
    ·rfl
    ·simp [h]
    ·rfl
    ·rfl
    ·simp [h]
    ·simp [h]
    ·rfl
   case c3_a=>
    intro u LD D a W hcl hi hp hs hw
    have h6:=Go.Sx.not_done hcl hi 6 (by kernel_rfl)
    have h7:=Go.Sx.not_done hcl h6 7 (by kernel_rfl)
    simp only [hi,h6,h7,Bool.false_eq_true,if_false] at hw
    refine aF hs (hc:=eJ w _ _ acc kind _ hk.1 hk.2 (by omega) hw) (k:=?_);rintro e0 W1 ⟨ad,cap,rfl,hw1⟩;refine ⟨_,rfl,?_⟩;clear hs hw;intro a hs;have hw:=hw1;clear hw1
    refine zG hs ?_
    refine Or.inr ⟨(ad,cap),hs,?_⟩
    show Has 0 w _ ((if (Nat.beq 7 3 || D 7)=true then _ else if (Nat.beq 6 3 || D 6)=true then _ else _)::_)
    rw [h6,h7]
    exact hw
   case c6_a=>
    intro u LD D a W hcl hi hp hs hw
    have h7:=Go.Sx.not_done hcl hi 7 (by kernel_rfl)
    have h3:=Go.Sx.done hp 3 (by kernel_rfl)
    simp only [hi,h3,h7,Bool.false_eq_true,if_false,if_true] at hw
    refine aF hs (hc:=oR w _ _ (acc ++ Ph.putI kind) key _ (by omega) (by rw [List.length_append];omega) hw) (k:=?_);rintro e0 W1 ⟨ad,cap,rfl,hw1⟩;refine ⟨_,rfl,?_⟩;clear hs hw;intro a hs;have hw:=hw1;clear hw1
    refine zG hs ?_
    refine Or.inr ⟨(ad,cap),hs,?_⟩
    show Has 0 w _ ((if (Nat.beq 7 6 || D 7)=true then _ else _)::_)
    rw [h7]
    exact hw
   case c7_a=>
    intro u LD D a W hcl hi hp hs hw
    have h6:=Go.Sx.done hp 6 (by kernel_rfl)
    simp only [hi,h6,Bool.false_eq_true,if_false,if_true] at hw
    refine zA hs hw ?_;clear hs;intro a hs
    exact Or.inr ⟨u 6,hs,hw⟩
   case k_a=>
    clear hs hw
    intro u a W hs hw
    replace hw:Has 0 w W (Sx.OwnB 5 (.slice (u 7).1 (acc ++ Ph.putI kind ++ Ph.putT key.data.toList).length (u 7).2) (acc ++ Ph.putI kind ++ Ph.putT key.data.toList)::aA b4 [.int .i64 kind,.string key,.int .i64 vk,.int .i64 vn,.string vs,.int .i64 ok,.int .i64 on,.string os,.int .i64 n] 55::aA b2 [.int .i64 c,.int .i64 q,.int .i64 (l.length:Int)] 2::aA b1 [.int .i64 c,.int .i64 q,.slice sad l.length scap] 66::Old w 0:: []):=hw
    replace hs:Slots a 64 [(3,(.slice (u 7).1 (acc ++ Ph.putI kind ++ Ph.putT key.data.toList).length (u 7).2)),(7,.pointer (some ⟨b4,0,none⟩)),(26,.slice sad l.length scap),(27,.int .i64 (l.length:Int)),(28,.int .i64 (i:Int))]:=hs.of ⟨rfl,rfl,rfl,rfl,rfl,trivial⟩
    generalize (u 7).1=ad1 at *
    generalize (u 7).2=cap1 at *
    clear u
    have hlen2:(acc ++ Ph.putI kind ++ Ph.putT key.data.toList).length≤322000060:=by simp only [List.length_append];omega
    generalize hA:acc ++ Ph.putI kind ++ Ph.putT key.data.toList=acc2 at *
    generalize Value.slice ad1 acc2.length cap1=v at *
    refine zA hs hw ?_;clear hs;intro a hs
    by_cases k3:kind=3
    ·subst k3
     refine zG hs ?_
     refine fL (σ:=Option Addr×Nat) (V:=fun u=>[v,.pointer (some ⟨b4,0+2,none⟩),.agg ⟨[.int .i64 vk,.int .i64 vn,.string vs]⟩,(.slice (u 3).1 (acc2 ++ cU vk vn vs).length (u 3).2),.pointer (some ⟨b4,0+5,none⟩),.agg ⟨[.int .i64 ok,.int .i64 on,.string os]⟩,(.slice (u 6).1 (acc2 ++ cU vk vn vs ++ cU ok on os).length (u 6).2),(.slice (u 7).1 (acc2 ++ cU vk vn vs ++ cU ok on os).length (u 7).2)])
      (Rs:=fun u D=>(if D 7 then Sx.OwnB 5 (.slice (u 7).1 (acc2 ++ cU vk vn vs ++ cU ok on os).length (u 7).2) (acc2 ++ cU vk vn vs ++ cU ok on os) else if D 6 then Sx.OwnB 5 (.slice (u 6).1 (acc2 ++ cU vk vn vs ++ cU ok on os).length (u 6).2) (acc2 ++ cU vk vn vs ++ cU ok on os) else if D 3 then Sx.OwnB 5 (.slice (u 3).1 (acc2 ++ cU vk vn vs).length (u 3).2) (acc2 ++ cU vk vn vs) else Sx.OwnB 5 v acc2)::aA b4 [.int .i64 3,.string key,.int .i64 vk,.int .i64 vn,.string vs,.int .i64 ok,.int .i64 on,.string os,.int .i64 n] 55::aA b2 [.int .i64 c,.int .i64 q,.int .i64 (l.length:Int)] 2::aA b1 [.int .i64 c,.int .i64 q,.slice sad l.length scap] 66::Old w 0:: []) (fun _=>(none,0)) hs hw (hVu:=?vu_b) (ho:=⟨?_,?_,?_,?c3_b,?_,?_,?c6_b,?c7_b,trivial⟩) (k:=?k_b)
     case vu_b=>
      intro u u' j h
      rcases j with _|_|_|_|_|_|_|_|j
      ·rfl
      ·rfl
      ·rfl
      ·simp [h]
      ·rfl
      ·rfl
      ·simp [h]
      ·simp [h]
      ·rfl
     case c3_b=>
      intro u LD D a W hcl hi hp hs hw
      have h6:=Go.Sx.not_done hcl hi 6 (by kernel_rfl)
      have h7:=Go.Sx.not_done hcl h6 7 (by kernel_rfl)
      simp only [hi,h6,h7,Bool.false_eq_true,if_false] at hw
      refine aF hs (hc:=u5 w _ _ acc2 vk vn vs _ hvk.1 hvk.2 hvn.1 hvn.2 (by omega) (by omega) hw) (k:=?_);rintro e0 W1 ⟨ad,cap,rfl,hw1⟩;refine ⟨_,rfl,?_⟩;clear hs hw;intro a hs;have hw:=hw1;clear hw1
      refine zG hs ?_
      refine Or.inr ⟨(ad,cap),hs,?_⟩
      show Has 0 w _ ((if (Nat.beq 7 3 || D 7)=true then _ else if (Nat.beq 6 3 || D 6)=true then _ else _)::_)
      rw [h6,h7]
      exact hw
     case c6_b=>
      intro u LD D a W hcl hi hp hs hw
      have h7:=Go.Sx.not_done hcl hi 7 (by kernel_rfl)
      have h3:=Go.Sx.done hp 3 (by kernel_rfl)
      simp only [hi,h3,h7,Bool.false_eq_true,if_false,if_true] at hw
      refine aF hs (hc:=u5 w _ _ (acc2 ++ cU vk vn vs) ok on os _ hok'.1 hok'.2 hon.1 hon.2 (by omega) (by rw [List.length_append];omega) hw) (k:=?_);rintro e0 W1 ⟨ad,cap,rfl,hw1⟩;refine ⟨_,rfl,?_⟩;clear hs hw;intro a hs;have hw:=hw1;clear hw1
      refine zG hs ?_
      refine Or.inr ⟨(ad,cap),hs,?_⟩
      show Has 0 w _ ((if (Nat.beq 7 6 || D 7)=true then _ else _)::_)
      rw [h7]
      exact hw
     case c7_b=>
      intro u LD D a W hcl hi hp hs hw
      have h6:=Go.Sx.done hp 6 (by kernel_rfl)
      simp only [hi,h6,Bool.false_eq_true,if_false,if_true] at hw
      refine zA hs hw ?_;clear hs;intro a hs
      exact Or.inr ⟨u 6,hs,hw⟩
     case k_b=>
      clear hs hw
      intro u a W hs hw
      replace hw:Has 0 w W (Sx.OwnB 5 (.slice (u 7).1 (acc2 ++ cU vk vn vs ++ cU ok on os).length (u 7).2) (acc2 ++ cU vk vn vs ++ cU ok on os)::aA b4 [.int .i64 3,.string key,.int .i64 vk,.int .i64 vn,.string vs,.int .i64 ok,.int .i64 on,.string os,.int .i64 n] 55::aA b2 [.int .i64 c,.int .i64 q,.int .i64 (l.length:Int)] 2::aA b1 [.int .i64 c,.int .i64 q,.slice sad l.length scap] 66::Old w 0:: []):=hw
      replace hs:Slots a 64 [(3,(.slice (u 7).1 (acc2 ++ cU vk vn vs ++ cU ok on os).length (u 7).2)),(7,.pointer (some ⟨b4,0,none⟩)),(26,.slice sad l.length scap),(27,.int .i64 (l.length:Int)),(28,.int .i64 (i:Int))]:=hs.of ⟨rfl,rfl,rfl,rfl,rfl,trivial⟩
      generalize (u 7).1=ad1 at *
      generalize (u 7).2=cap1 at *
      clear u
      have hw:=hw.drop2
      refine zA hs hw ?_;clear hs;intro a hs
      rw [show acc2 ++ cU vk vn vs ++ cU ok on os=acc ++ opB ⟨3,key,vk,vn,vs,ok,on,os,n⟩ from by rw [←hA];simp [opB],←hnext] at hs hw
      refine bR (_,i+1) hs hw (by show i+1≤l.length;omega) (by show l.length - (i+1)<l.length - i;omega) ⟨rfl,rfl,rfl,bS (by show IntKind.i64.wrap ((i:Int)+1)=((i+1:Nat):Int);rw [IntWalk.i64_in _ (by omega)];omega),trivial⟩
     all_goals
      intro u LD D a W hcl hi hp hs hw
      refine zA hs hw ?_;clear hs;intro a hs
      exact Or.inl ⟨hs,hw⟩
    have e3:(kind == 3)=false:=by simpa using k3
    rw [e3] at hs
    refine zA hs hw ?_;clear hs;intro a hs
    by_cases k1:kind=1
    ·subst k1
     refine zA hs hw ?_;clear hs;intro a hs
     refine aF hs (hc:=u5 w _ _ (acc2) vk vn vs _ hvk.1 hvk.2 hvn.1 hvn.2 (by omega) (by omega) hw) (k:=?_);rintro e0 W1 ⟨ad,cap,rfl,hw1⟩;refine ⟨_,rfl,?_⟩;clear hs hw;intro a hs;have hw:=hw1;clear hw1
     refine zA hs hw ?_;clear hs;intro a hs
     have hw:=hw.drop2
     repeat (first|(refine sxv hs hw ?_;clear hs;intro a hs)|refine sxc hs ?_|(refine sxa hs hw ?_;clear hs hw;intro a b W hw hs)|(refine sxs hs hw ?_;clear hs hw;intro W hs hw))
     rw [show acc2 ++ cU vk vn vs=acc ++ opB ⟨1,key,vk,vn,vs,ok,on,os,n⟩ from by rw [←hA];simp [opB],←hnext] at hs hw
     refine bR (_,i+1) hs hw (by show i+1≤l.length;omega) (by show l.length - (i+1)<l.length - i;omega) ⟨rfl,rfl,rfl,bS (by show IntKind.i64.wrap ((i:Int)+1)=((i+1:Nat):Int);rw [IntWalk.i64_in _ (by omega)];omega),trivial⟩
    have e1:(kind == 1)=false:=by simpa using k1
    rw [e1] at hs
    refine zA hs hw ?_;clear hs;intro a hs
    by_cases k4:kind=4
    ·subst k4
     refine zA hs hw ?_;clear hs;intro a hs
     refine aF hs (hc:=eJ w _ _ (acc2) n _ hn.1 hn.2 (by omega) hw) (k:=?_);rintro e0 W1 ⟨ad,cap,rfl,hw1⟩;refine ⟨_,rfl,?_⟩;clear hs hw;intro a hs;have hw:=hw1;clear hw1
     refine zA hs hw ?_;clear hs;intro a hs
     have hw:=hw.drop2
     repeat (first|(refine sxv hs hw ?_;clear hs;intro a hs)|refine sxc hs ?_|(refine sxa hs hw ?_;clear hs hw;intro a b W hw hs)|(refine sxs hs hw ?_;clear hs hw;intro W hs hw))
     rw [show acc2 ++ Ph.putI n=acc ++ opB ⟨4,key,vk,vn,vs,ok,on,os,n⟩ from by rw [←hA];simp [opB],←hnext] at hs hw
     refine bR (_,i+1) hs hw (by show i+1≤l.length;omega) (by show l.length - (i+1)<l.length - i;omega) ⟨rfl,rfl,rfl,bS (by show IntKind.i64.wrap ((i:Int)+1)=((i+1:Nat):Int);rw [IntWalk.i64_in _ (by omega)];omega),trivial⟩
    have e4:(kind == 4)=false:=by simpa using k4
    rw [e4] at hs
    refine zA hs hw ?_;clear hs;intro a hs
    have hw:=hw.drop2
    repeat (first|(refine sxv hs hw ?_;clear hs;intro a hs)|refine sxc hs ?_|(refine sxa hs hw ?_;clear hs hw;intro a b W hw hs)|(refine sxs hs hw ?_;clear hs hw;intro W hs hw))
    rw [show acc2=acc ++ opB ⟨kind,key,vk,vn,vs,ok,on,os,n⟩ from by rw [←hA];simp [opB,k3,k1,k4],←hnext] at hw
    refine bR (_,i+1) hs hw (by show i+1≤l.length;omega) (by show l.length - (i+1)<l.length - i;omega) ⟨rfl,rfl,rfl,bS (by show IntKind.i64.wrap ((i:Int)+1)=((i+1:Nat):Int);rw [IntWalk.i64_in _ (by omega)];omega),trivial⟩
   all_goals
    intro u LD D a W hcl hi hp hs hw
    refine zA hs hw ?_;clear hs;intro a hs
    exact Or.inl ⟨hs,hw⟩
  ·have hi':i=l.length:=by simp at hc;omega
   subst hi'
   refine zA hs hw ?_;clear hs;intro a hs
   rw [List.take_length] at hw
   have hw:=hw.sub (List.Sublist.cons_cons _ (List.Sublist.cons _ (List.Sublist.cons _ (List.Sublist.refl _))))
   obtain ⟨ad,cap,e⟩:∃ad cap,v= .slice ad (d9 c q l).length cap:=hw.own_slice
   subst e
   exact rt1 hs rfl rfl ⟨ad,cap,rfl,hw⟩
instance mpDoc:Mp Tryz.prog 175 9 174:=⟨by kernel_rfl,by kernel_rfl⟩
theorem vS (W:World):(zeroValue 174).run Tryz.prog W= .ok (.agg ⟨[dL none]⟩) W:=by kernel_rfl
abbrev DV:=Int ⊕ ByteArray
abbrev Dm:=List (ByteArray×DV)
def vOf (x:DV):Value:= .agg ⟨[dL (some x)]⟩
def cG (d:Dm):KV:=d.map fun p=>(p.1,vOf p.2)
def dW (d:Dm):Prop:=(d.map (·.1)).Nodup
def dA:Dm→ByteArray→Option DV
 | [],_=>none
 |p::d,k=>match ks k p.1 with|true=>some p.2|false=>dA d k
def gB (d:Dm) (k:ByteArray):Dm:=d.filter fun p=>!ks k p.1
def jV (d:Dm) (k:ByteArray) (v:DV):Dm:=(k,v)::gB d k
theorem rT:∀(d:Dm) (k:ByteArray),(iR (cG d) k).getD (.agg ⟨[dL none]⟩)= .agg ⟨[dL (dA d k)]⟩
 | [],_=>rfl
 |p::d,k=>by
  simp only [cG,List.map_cons,iR,dA]
  cases ks k p.1 with
  |true=>rfl
  |false=>exact rT d k
theorem vT:∀{d:Dm} {k:ByteArray},dA d k=none↔k∉d.map (·.1)
 | [],_=>by simp [dA]
 |p::d,k=>by
  simp only [dA,List.map_cons,List.mem_cons,not_or]
  cases hk:ks k p.1 with
  |true=>simp [jR.1 hk]
  |false=>
   have:k≠p.1:=fun h=>by rw [jR.2 h] at hk;cases hk
   simp only [this,not_false_eq_true,true_and]
   exact vT
theorem vU:∀{d:Dm} {k:ByteArray} {v:DV},dW d→(dA d k=some v↔(k,v)∈d)
 | [],_,_,_=>by simp [dA]
 |p::d,k,v,h=>by
  unfold dW at h
  rw [List.map_cons,List.nodup_cons] at h
  simp only [dA,List.mem_cons]
  cases hk:ks k p.1 with
  |true=>
   have e:=jR.1 hk
   constructor
   ·intro h'
    injection h' with h'
    exact .inl (by rw [e,←h'])
   ·rintro (h'|h')
    ·rw [←h']
    ·exact absurd (List.mem_map_of_mem (f:=(·.1)) h') (by rw [e];exact h.1)
  |false=>
   have:k≠p.1:=fun h=>by rw [jR.2 h] at hk;cases hk
   simp only
   rw [vU h.2]
   constructor
   ·exact .inr
   ·rintro (h'|h')
    ·exact absurd (by rw [←h']) this
    ·exact h'
theorem iU {d d':Dm} (p:d.Perm d'):dW d↔dW d':=(p.map _).nodup_iff
theorem pB {d d':Dm} (p:d.Perm d') (h:dW d) (k:ByteArray):dA d k=dA d' k:=by
 have h':dW d':=(iU p).1 h
 cases hd:dA d k with
 |some v=>exact ((vU h').2 (p.mem_iff.1 ((vU h).1 hd))).symm
 |none=>
  rw [vT] at hd
  exact (vT.2 fun hm=>hd ((p.map _).mem_iff.2 hm)).symm
theorem vV {d:Dm} (h:dW d) (k:ByteArray):dW (gB d k):=h.sublist (List.filter_sublist.map _)
theorem aEv {d:Dm} {k:ByteArray}:k∉(gB d k).map (·.1):=by
 intro h
 obtain ⟨p,hp,rfl⟩:=List.mem_map.1 h
 have:=(List.mem_filter.1 hp).2
 rw [rI] at this
 cases this
theorem aAV {d:Dm} (h:dW d) (k:ByteArray) (v:DV):dW (jV d k v):=by
 unfold dW jV
 rw [List.map_cons,List.nodup_cons]
 exact ⟨aEv,vV h k⟩
theorem vW {d d':Dm} (p:d.Perm d') (k:ByteArray):(gB d k).Perm (gB d' k):=p.filter _
theorem aAW {d d':Dm} (p:d.Perm d') (k:ByteArray) (v:DV):(jV d k v).Perm (jV d' k v):=(vW p k).cons _
theorem aAX {d:Dm} {k:ByteArray} (h:k∉d.map (·.1)):(d.filter fun p=>!ks k p.1)=d:=by
 rw [List.filter_eq_self]
 intro p hp
 cases hk:ks k p.1 with
 |false=>rfl
 |true=>exact absurd (List.mem_map_of_mem (f:=(·.1)) hp) (by rw [←jR.1 hk];exact h)
theorem aAY:∀{d:Dm} (k:ByteArray),dW d→jS (cG d) k=cG (gB d k)
 | [],_,_=>rfl
 |p::d,k,h=>by
  unfold dW at h
  rw [List.map_cons,List.nodup_cons] at h
  simp only [cG,List.map_cons,jS,gB,List.filter_cons]
  cases hk:ks k p.1 with
  |true=>
   simp only [Bool.not_true,Bool.false_eq_true,if_false]
   rw [aAX (by rw [jR.1 hk];exact h.1)]
  |false=>
   simp only [Bool.not_false,if_true,List.map_cons]
   have:=aAY (d:=d) k h.2
   unfold cG gB at this
   rw [this]
theorem vX:∀{d:Dm} (k:ByteArray) (v:DV),dW d→∃d',fR (cG d) k (vOf v)=cG d'∧d'.Perm (jV d k v)
 | [],k,v,_=>⟨[(k,v)],rfl,List.Perm.refl _⟩
 |p::d,k,v,h=>by
  unfold dW at h
  rw [List.map_cons,List.nodup_cons] at h
  simp only [cG,List.map_cons,fR,jV,gB,List.filter_cons]
  cases hk:ks k p.1 with
  |true=>
   refine ⟨(k,v)::d,rfl,?_⟩
   simp only [Bool.not_true,Bool.false_eq_true,if_false]
   rw [aAX (by rw [jR.1 hk];exact h.1)]
  |false=>
   obtain ⟨d',h1,h2⟩:=vX (d:=d) k v h.2
   refine ⟨p::d',?_,?_⟩
   ·show (p.1,vOf p.2)::fR (cG d) k (vOf v)=_
    rw [h1];rfl
   ·simp only [Bool.not_false,if_true]
    exact (h2.cons p).trans (List.Perm.swap _ _ _)
def bI (p:Nat) (d:Dm):Res:=Ex fun x:Nat×Dm=>aA p [.map (some x.1)] 177::bW x.1 (cG x.2)::bN (x.2.Perm d∧dW d):: []
section
variable {G p m:Nat} {w W:World} {R:List Res} {d d':Dm}
theorem iV (h:Has G w W (aA p [.map (some m)] 177::bW m (cG d')::R)) (hp:d'.Perm d) (hk:dW d):Has G w W (bI p d::R):=
 Has.shut (m,d') ((h.fact (p:=d'.Perm d∧dW d) ⟨hp,hk⟩).perm ((List.Perm.swap _ _ _).trans (List.Perm.cons _ (List.Perm.swap _ _ _))))
theorem iW (h:Has G w W (bI p d::R)):∃m d',d'.Perm d∧dW d∧Has G w W (aA p [.map (some m)] 177::bW m (cG d')::R):=by
 obtain ⟨⟨m,d'⟩,h⟩:=Has.open h
 have h:Has G w W (aA p [.map (some m)] 177::bW m (cG d')::bN (d'.Perm d∧dW d)::R):=h
 obtain ⟨h1,h2⟩:=h.told (In.tl (In.tl In.hd))
 exact ⟨m,d',h1,h2,h.sub (List.Sublist.cons_cons _ (List.Sublist.cons_cons _ (List.Sublist.cons _ (List.Sublist.refl _))))⟩
end
theorem vY (w0 W:World) (R:List Res) (hw:Has 0 w0 W R):
  Calls Tryz.prog 172 ⟨[]⟩ W fun e W'=>∃p,e= .returned (.pointer (some ⟨p,0,none⟩))∧Has 0 w0 W' (bI p []::R):=by
 refine enter Tryz.func172 Tryz.ntmps172 rfl rfl fun a hs=>?_
 refine zA hs hw ?_;clear hs;intro a hs
 refine z7 hs hw (c:=?_);clear hs hw;intro a b W hw hs
 repeat (first|(refine sxv hs hw ?_;clear hs;intro a hs)|refine sxc hs ?_|(refine sxa hs hw ?_;clear hs hw;intro a b W hw hs)|(refine sxs hs hw ?_;clear hs hw;intro W hs hw))
 refine rt1 hs rfl rfl ⟨_,rfl,?_⟩
 exact iV (d':=[]) hw (List.Perm.refl _) (by unfold dW;simp)
theorem aEw (x:Option DV):(gA x !=0)=x.isSome:=by rcases x with _|n|s <;> rfl
theorem aAZ (w0 W:World) (p:Nat) (d:Dm) (k:ByteArray) (R:List Res) (hw:Has 0 w0 W (bI p d::R)):
  Calls Tryz.prog 99 ⟨[.pointer (some ⟨p,0,none⟩),.string k]⟩ W fun e W'=>e= .returned (.bool (dA d k).isSome)∧Has 0 w0 W' (bI p d::R):=by
 obtain ⟨m,d',hp,hk,hw⟩:=iW hw
 refine enter Tryz.func99 Tryz.ntmps99 rfl rfl fun a hs=>?_
 refine zA hs hw ?_;clear hs;intro a hs
 refine mB hs (hw:=hw) (hz:=vS) (c:=?_);clear hs;intro a hs
 rw [rT,pB hp ((iU hp).2 hk)] at hs
 refine aF hs (hc:=oZ (dA d k) _) (k:=?_);rintro e0 W1 ⟨rfl,hb⟩;refine ⟨_,rfl,?_⟩;clear hs;intro a hs;replace hw:=hw.below hb;clear hb
 refine zA hs hw ?_;clear hs;intro a hs
 rw [aEw] at hs
 exact rt1 hs rfl rfl ⟨rfl,iV hw hp hk⟩
def gV (d:Dm) (k:ByteArray) (x:Option DV):Int×Dm:=
 match x with
 |none=>(0,gB d k)
 |some v=>if (dA d k).isSome=false∧50≤d.length then (6,d) else (0,jV d k v)
theorem rU (w0 W:World) (p:Nat) (d:Dm) (k:ByteArray) (x:Option DV) (R:List Res) (hw:Has 0 w0 W (bI p d::R)):
  Calls Tryz.prog 278 ⟨[.pointer (some ⟨p,0,none⟩),.string k,.agg ⟨[dL x]⟩]⟩ W fun e W'=>e= .returned (.int .i64 (gV d k x).1)∧Has 0 w0 W' (bI p (gV d k x).2::R):=by
 refine enter Tryz.func278 Tryz.ntmps278 rfl rfl fun a hs=>?_
 repeat (first|(refine sxv hs hw ?_;clear hs;intro a hs)|refine sxc hs ?_|(refine sxa hs hw ?_;clear hs hw;intro a b W hw hs)|(refine sxs hs hw ?_;clear hs hw;intro W hs hw))
 refine aF hs (hc:=oZ x _) (k:=?_);rintro e0 W1 ⟨rfl,hb⟩;refine ⟨_,rfl,?_⟩;clear hs;intro a hs;replace hw:=hw.below hb;clear hb
 refine zA hs hw ?_;clear hs;intro a hs
 cases x with
 |none=>
  refine zA hs hw ?_;clear hs;intro a hs
  have hw:=hw.sub (List.Sublist.cons _ (List.Sublist.refl _))
  obtain ⟨m,d',hp,hk,hw⟩:=iW hw
  refine zA hs hw ?_;clear hs;intro a hs
  refine aED hs (hw:=hw) (c:=?_);clear hs hw;intro W hs hw
  rw [aAY k ((iU hp).2 hk)] at hw
  refine zA hs hw ?_;clear hs;intro a hs
  exact rt1 hs rfl rfl ⟨rfl,iV hw (vW hp k) (vV hk k)⟩
 |some v=>
  rw [show (gA (some v) == 0)=false from by rcases v with n|s <;> rfl] at hs
  obtain ⟨b5,q5⟩:=nm1 hw;subst q5
  have hw:Has 0 w0 _ (bI p d::aA b5 [dL (some v)] 174::R):=hw.swap2
  obtain ⟨m,d2,hp,hk,hw⟩:=iW hw
  have hlen:d2.length=d.length:=hp.length_eq
  have hlen':(cG d2).length=d2.length:=by simp [cG]
  obtain ⟨d3,h3,h4⟩:=vX k v ((iU hp).2 hk)
  refine uK hs (k:=?_)
  refine sq ?_
  refine fC (M:=fun a W=>∃m d2,d2.Perm d∧Slots a 35 [(0,.pointer (some ⟨p,0,none⟩)),(1,.string k),(5,.pointer (some ⟨b5,0,none⟩)),(22,.bool (!(dA d k).isSome && decide ((d.length:Int)≥50)))]∧Has 0 w0 W (aA p [.map (some m)] 177::bW m (cG d2)::aA b5 [dL (some v)] 174::R)) ?_ ?_
  ·clear h3 h4
   refine zA hs hw ?_;clear hs;intro a hs
   refine aF hs (hc:=aAZ w0 _ p d k _ (iV hw hp hk)) (k:=?_);rintro e0 W1 ⟨rfl,hw1⟩;refine ⟨_,rfl,?_⟩;clear hs hw;intro a hs;have hw:=hw1;clear hw1
   obtain ⟨m,d2,hp,hk,hw⟩:=iW hw
   have hlen:d2.length=d.length:=hp.length_eq
   have hlen':(cG d2).length=d2.length:=by simp [cG]
   refine zA hs hw ?_;clear hs;intro a hs
   cases hg:(dA d k).isSome with
   |true=>
    rw [hg] at hs
    refine zA hs hw ?_;clear hs;intro a hs
    exact ⟨m,d2,hp,hs.of ⟨rfl,rfl,rfl,rfl,trivial⟩,hw⟩
   |false=>
    rw [hg] at hs
    refine zA hs hw ?_;clear hs;intro a hs
    refine aEE hs (hw:=hw) (c:=?_);clear hs;intro a hs
    rw [hlen',hlen] at hs
    refine zA hs hw ?_;clear hs;intro a hs
    exact ⟨m,d2,hp,hs.of ⟨rfl,rfl,rfl,zM (by simp),trivial⟩,hw⟩
  clear hs hw hp hlen hlen' h3 h4
  rintro a W ⟨m,d2,hp,hs,hw⟩
  obtain ⟨d3,h3,h4⟩:=vX k v ((iU hp).2 hk)
  cases hc:(!(dA d k).isSome && decide ((d.length:Int)≥50)) with
  |true=>
   rw [hc] at hs
   have hR:gV d k (some v)=(6,d):=by
    simp only [Bool.and_eq_true,Bool.not_eq_true',decide_eq_true_eq] at hc
    unfold gV
    simp only
    rw [if_pos ⟨hc.1,by omega⟩]
   refine zA hs hw ?_;clear hs;intro a hs
   have hw:=iV (hw.sub (List.Sublist.cons_cons _ (List.Sublist.cons_cons _ (List.Sublist.cons _ (List.Sublist.refl _))))) hp hk
   exact rt1 hs rfl rfl ⟨by rw [hR],by rw [hR];exact hw⟩
  |false=>
  rw [hc] at hs
  have hR:gV d k (some v)=(0,jV d k v):=by
   unfold gV
   simp only
   rw [if_neg]
   rintro ⟨h1,h2⟩
   rw [h1] at hc
   simp at hc
   omega
  refine zG hs ?_
  refine gK (V:=[.pointer (some ⟨p,0,none⟩),.pointer (some ⟨p,0,none⟩),.pointer (some ⟨p,0+0,none⟩),.map (some m),.string k,.agg ⟨[dL (some v)]⟩,.bool true])
   (Rs:=fun D=>aA p [.map (some m)] 177::(if D 6 then bW m (cG d3) else bW m (cG d2))::aA b5 [dL (some v)] 174::R) hs hw (ho:=⟨?_,?_,?_,?_,?_,?_,?c6_1,trivial⟩) (k:=?k_1)
  case c6_1=>
   intro LD D a W hcl hi hp hs hw
   simp only [hi,Bool.false_eq_true,if_false] at hw
   refine oT hs (hw:=hw) (v:=vOf v) (c:=?_);clear hs hw;intro W hs hw
   rw [h3] at hw
   refine zG hs ?_
   exact ⟨hs,hw⟩
  case k_1=>
   clear hs hw
   intro a W hs hw
   replace hw:Has 0 w0 W (aA p [.map (some m)] 177::bW m (cG d3)::aA b5 [dL (some v)] 174::R):=hw
   refine zA hs hw ?_;clear hs;intro a hs
   have hw:=iV (hw.sub (List.Sublist.cons_cons _ (List.Sublist.cons_cons _ (List.Sublist.cons _ (List.Sublist.refl _))))) (h4.trans (aAW hp k v)) (aAV hk k v)
   exact rt1 hs rfl rfl ⟨by rw [hR],by rw [hR];exact hw⟩
  all_goals
   intro LD D a W hcl hi hp hs hw
   refine zA hs hw ?_;clear hs;intro a hs
   exact ⟨hs,hw⟩
def inB (n:Int):Bool:=decide (n≥-4611686018427387904) && decide (n≤4611686018427387904)
theorem rV (n:Int) (W:World):Calls Tryz.prog 277 ⟨[.int .i64 n]⟩ W fun e W'=>e= .returned (.bool (inB n))∧Below W.heap.size W W':=by
 have hw:=Has.start (G:=0) (w:=W) (Nat.zero_le _)
 refine enter Tryz.func277 Tryz.ntmps277 rfl rfl fun a hs=>?_
 refine zA hs hw ?_;clear hs;intro a hs
 cases h:decide (n≥-4611686018427387904) with
 |true=>
  rw [h] at hs
  refine zA hs hw ?_;clear hs;intro a hs
  exact rt1 hs rfl rfl ⟨by simp only [inB,h];rfl,hw.end (by repeat (first|exact In.hd|apply In.tl))⟩
 |false=>
  rw [h] at hs
  refine zA hs hw ?_;clear hs;intro a hs
  exact rt1 hs rfl rfl ⟨by simp only [inB,h];rfl,hw.end (by repeat (first|exact In.hd|apply In.tl))⟩
def jF (d:Dm) (o:OpD):Int×Dm:=
 if o.kind=3 then (if eqV (dA d o.key) (bU o.ok o.on o.os).1 then gV d o.key (bU o.vk o.vn o.vs).1 else (8,d))
 else if o.kind=4 then
  if (gA (dA d o.key) !=0 && !mF (dA d o.key))=true then (7,d)
  else if (!inB (fE (dA d o.key)) || !inB (IntKind.i64.wrap (fE (dA d o.key)+o.n)))=true then (4,d)
  else gV d o.key (some (.inl (IntKind.i64.wrap (fE (dA d o.key)+o.n))))
 else gV d o.key (bU o.vk o.vn o.vs).1
theorem aEx (w0 W:World) (H:Fh) (p:Nat) (d:Dm) (o:OpD) (R:List Res) (ho:OpOk o) (i:In (Fz H) R) (hH:(fr w0).le H) (hT:Tabs w0) (hw:Has 0 w0 W (bI p d::R)):
  Calls Tryz.prog 246 ⟨[.pointer (some ⟨p,0,none⟩),.agg ⟨bT o⟩]⟩ W fun e W'=>e= .returned (.int .i64 (jF d o).1)∧Has 0 w0 W' (bI p (jF d o).2::R):=by
 obtain ⟨kind,key,vk,vn,vs,ok,on,os,n⟩:=o
 have hvs:=ho.vs
 have hos:=ho.os
 simp only at hvs hos
 refine enter Tryz.func246 Tryz.ntmps246 rfl rfl fun a hs=>?_
 repeat (first|(refine sxv hs hw ?_;clear hs;intro a hs)|refine sxc hs ?_|(refine sxa hs hw ?_;clear hs hw;intro a b W hw hs)|(refine sxs hs hw ?_;clear hs hw;intro W hs hw))
 refine aF hs (hc:=lI vk vn vs _ (by omega) (hT.keep (hw.endF (by repeat (first|exact i|apply In.tl)) hH))) (k:=?_);rintro e0 W1 ⟨rfl,hb⟩;refine ⟨_,rfl,?_⟩;clear hs;intro a hs;replace hw:=hw.below hb;clear hb
 repeat (first|(refine sxv hs hw ?_;clear hs;intro a hs)|refine sxc hs ?_|(refine sxa hs hw ?_;clear hs hw;intro a b W hw hs)|(refine sxs hs hw ?_;clear hs hw;intro W hs hw))
 refine d6 hs (hw:=hw) (h1:=pA (bU vk vn vs).1) (k:=?_);clear hs hw;intro W hs hw
 refine zA hs hw ?_;clear hs;intro a hs
 obtain ⟨bv,q1⟩:=nm1 hw;subst q1
 obtain ⟨bo,q2⟩:=nm2 hw;subst q2
 obtain ⟨m,d2,hp,hk,hw⟩:=iW (hw.perm ((List.Perm.cons _ (List.Perm.swap _ _ _)).trans (List.Perm.swap _ _ _)))
 have hw:Has 0 w0 _ (bK::aA p [.map (some m)] 177::bW m (cG d2)::aA bv [dL (bU vk vn vs).1] 174::aA bo [.int .i64 kind,.string key,.int .i64 vk,.int .i64 vn,.string vs,.int .i64 ok,.int .i64 on,.string os,.int .i64 n] 55::R):=hw.free
 have hlk:=rT d2 key
 rw [pB hp ((iU hp).2 hk)] at hlk
 obtain ⟨now,hnow⟩:∃now,dA d key=now:=⟨_,rfl⟩
 rw [hnow] at hlk
 have hX:jF d ⟨kind,key,vk,vn,vs,ok,on,os,n⟩=(if kind=3 then (if eqV now (bU ok on os).1 then gV d key (bU vk vn vs).1 else (8,d))
   else if kind=4 then
    if (gA now !=0 && !mF now)=true then (7,d)
    else if (!inB (fE now) || !inB (IntKind.i64.wrap (fE now+n)))=true then (4,d)
    else gV d key (some (.inl (IntKind.i64.wrap (fE now+n))))
   else gV d key (bU vk vn vs).1):=by unfold jF;simp only;rw [hnow]
 rw [hX]
 clear hX
 obtain ⟨X,hXX⟩:∃X,(bU vk vn vs).1=X:=⟨_,rfl⟩
 rw [hXX] at hs hw⊢
 refine fL (σ:=Nat) (V:=fun u=>[.pointer (some ⟨p,0,none⟩),.pointer (some ⟨p,0,none⟩),.pointer (some ⟨p,0+0,none⟩),.map (some m),.pointer (some ⟨bo,0+1,none⟩),.string key,.agg ⟨[dL now]⟩,.pointer (some ⟨u 7,0,none⟩),.bool true])
  (Rs:=fun u D=>(if D 7 then aA (u 7) (if D 8 then [dL now] else [.nilIface]) 174 else bK)::aA p [.map (some m)] 177::bW m (cG d2)::aA bv [dL X] 174::aA bo [.int .i64 kind,.string key,.int .i64 vk,.int .i64 vn,.string vs,.int .i64 ok,.int .i64 on,.string os,.int .i64 n] 55::R) (fun _=>0) hs hw (hVu:=?vu_1) (ho:=⟨?_,?_,?_,?_,?_,?_,?c6_1,?c7_1,?c8_1,trivial⟩) (k:=?k_1)
 case vu_1=>
  intro u u' j h
  rcases j with _|_|_|_|_|_|_|_|_|j
  all_goals first|rfl|simp [h]
 case c6_1=>
  intro u LD D a W hcl hi hp hs hw
  refine mB hs (hw:=hw) (hz:=vS) (c:=?_);clear hs;intro a hs
  rw [hlk] at hs
  refine zG hs ?_
  exact Or.inl ⟨hs,hw⟩
 case c7_1=>
  intro u LD D a W hcl hi hp hs hw
  have h8:=Go.Sx.not_done hcl hi 8 (by kernel_rfl)
  simp only [hi,Bool.false_eq_true,if_false] at hw
  repeat (first|(refine sxv hs hw ?_;clear hs;intro a hs)|refine sxc hs ?_|(refine sxa hs hw ?_;clear hs hw;intro a b W hw hs)|(refine sxs hs hw ?_;clear hs hw;intro W hs hw))
  refine Or.inr ⟨_,hs,?_⟩
  show Has 0 w0 _ (aA _ (if (Nat.beq 8 7 || D 8)=true then _ else _) _::_)
  rw [h8]
  exact hw.fill Upd.hd
 case c8_1=>
  intro u LD D a W hcl hi hp hs hw
  have h7:=Go.Sx.done hp 7 (by kernel_rfl)
  simp only [hi,h7,Bool.false_eq_true,if_false,if_true] at hw
  refine d6 hs (hw:=hw) (h1:=pA now) (k:=?_);clear hs hw;intro W hs hw
  refine zG hs ?_
  refine Or.inl ⟨hs,?_⟩
  show Has 0 w0 _ ((if (Nat.beq 7 8 || D 7)=true then _ else _)::_)
  rw [h7]
  exact hw
 case k_1=>
  clear hs hw
  intro u a W hs hw
  replace hw:Has 0 w0 W (aA (u 7) [dL now] 174::aA p [.map (some m)] 177::bW m (cG d2)::aA bv [dL X] 174::aA bo [.int .i64 kind,.string key,.int .i64 vk,.int .i64 vn,.string vs,.int .i64 ok,.int .i64 on,.string os,.int .i64 n] 55::R):=hw
  replace hs:Slots a 80 [(0,.pointer (some ⟨p,0,none⟩)),(3,.pointer (some ⟨bo,0,none⟩)),(5,.pointer (some ⟨bv,0,none⟩)),(7,.pointer (some ⟨u 7,0,none⟩))]:=hs.of ⟨rfl,rfl,rfl,rfl,trivial⟩
  generalize u 7=b7 at *
  clear u
  replace hw:=iV (hw.perm ((List.Perm.swap _ _ _).trans (List.Perm.cons _ (List.Perm.swap _ _ _)))) hp hk
  clear hp hlk
  refine zA hs hw ?_;clear hs;intro a hs
  by_cases k3:kind=3
  ·subst k3
   rw [if_pos rfl]
   refine zA hs hw ?_;clear hs;intro a hs
   refine aF hs (hc:=lI ok on os _ (by omega) (hT.keep (hw.endF (by repeat (first|exact i|apply In.tl)) hH))) (k:=?_);rintro e0 W1 ⟨rfl,hb⟩;refine ⟨_,rfl,?_⟩;clear hs;intro a hs;replace hw:=hw.below hb;clear hb
   repeat (first|(refine sxv hs hw ?_;clear hs;intro a hs)|refine sxc hs ?_|(refine sxa hs hw ?_;clear hs hw;intro a b W hw hs)|(refine sxs hs hw ?_;clear hs hw;intro W hs hw))
   refine d6 hs (hw:=hw) (h1:=pA (bU ok on os).1) (k:=?_);clear hs hw;intro W hs hw
   refine zA hs hw ?_;clear hs;intro a hs
   refine aF hs (hc:=aEp now (bU ok on os).1 _) (k:=?_);rintro e0 W1 ⟨rfl,hb⟩;refine ⟨_,rfl,?_⟩;clear hs;intro a hs;replace hw:=hw.below hb;clear hb
   refine zA hs hw ?_;clear hs;intro a hs
   cases he:eqV now (bU ok on os).1 with
   |false=>
    rw [he] at hs
    refine zA hs hw ?_;clear hs;intro a hs
    refine rt1 hs rfl rfl ⟨rfl,?_⟩
    exact hw.sub (L':=bI p d::R) (List.Sublist.cons _ (List.Sublist.cons_cons _ (List.Sublist.cons _ (List.Sublist.cons _ (List.Sublist.cons _ (List.Sublist.refl _))))))
   |true=>
    rw [he] at hs
    refine zA hs hw ?_;clear hs;intro a hs
    refine aF hs (hc:=rU w0 _ p d key X _ hw.swap2) (k:=?_);rintro e0 W1 ⟨rfl,hw1⟩;refine ⟨_,rfl,?_⟩;clear hs hw;intro a hs;have hw:=hw1;clear hw1
    refine zA hs hw ?_;clear hs;intro a hs
    refine rt1 hs rfl rfl ⟨rfl,?_⟩
    exact hw.sub (List.Sublist.cons_cons _ (List.Sublist.cons _ (List.Sublist.cons _ (List.Sublist.cons _ (List.Sublist.cons _ (List.Sublist.refl _))))))
  have e3:(kind == 3)=false:=by simpa using k3
  rw [e3] at hs
  rw [if_neg k3]
  refine zA hs hw ?_;clear hs;intro a hs
  by_cases k4:kind=4
  ·subst k4
   rw [if_pos rfl]
   rcases now with _|g|s
   ·have hK:=fun W=>oZ (none:Option DV) W
    have hA:=fun W=>vM (none:Option DV) W
    rw [show gA (none:Option DV)=0 from rfl] at hK⊢
    rw [show fE (none:Option DV)=0 from rfl] at hA⊢
    rw [show mF (none:Option DV)=false from rfl] at hA⊢
    rw [if_neg (by decide)]
    refine zA hs hw ?_;clear hs;intro a hs
    refine aF hs (hc:=hA _) (k:=?_);rintro e0 W1 ⟨rfl,hb⟩;refine ⟨_,rfl,?_⟩;clear hs;intro a hs;replace hw:=hw.below hb;clear hb
    refine zA hs hw ?_;clear hs;intro a hs
    refine aF hs (hc:=hK _) (k:=?_);rintro e0 W1 ⟨rfl,hb⟩;refine ⟨_,rfl,?_⟩;clear hs;intro a hs;replace hw:=hw.below hb;clear hb
    refine zA hs hw ?_;clear hs;intro a hs
    refine aF hs (hc:=rV 0 _) (k:=?_);rintro e0 W1 ⟨rfl,hb⟩;refine ⟨_,rfl,?_⟩;clear hs;intro a hs;replace hw:=hw.below hb;clear hb
    refine zA hs hw ?_;clear hs;intro a hs
    rw [show inB 0=true from rfl] at hs⊢
    refine aF hs (hc:=rV (IntKind.i64.wrap (0+n)) _) (k:=?_);rintro e0 W1 ⟨rfl,hb⟩;refine ⟨_,rfl,?_⟩;clear hs;intro a hs;replace hw:=hw.below hb;clear hb
    refine zA hs hw ?_;clear hs;intro a hs
    cases g2:inB (IntKind.i64.wrap (0+n)) with
    |false=>
     rw [g2] at hs
     refine zA hs hw ?_;clear hs;intro a hs
     rw [if_pos (by rfl)]
     exact rt1 hs rfl rfl ⟨rfl,hw.sub (List.Sublist.cons_cons _ (List.Sublist.cons _ (List.Sublist.cons _ (List.Sublist.cons _ (List.Sublist.refl _)))))⟩
    |true=>
    rw [g2] at hs
    refine zA hs hw ?_;clear hs;intro a hs
    rw [if_neg (by decide)]
    have hV:=fun W hT=>lI 1 (IntKind.i64.wrap (0+n)) ⟨#[]⟩ W (by decide) hT
    rw [show bU 1 (IntKind.i64.wrap (0+n)) ⟨#[]⟩=(some (.inl (IntKind.i64.wrap (0+n))),0) from rfl] at hV
    refine aF hs (hc:=hV _ (hT.keep (hw.endF (by repeat (first|exact i|apply In.tl)) hH))) (k:=?_);rintro e0 W1 ⟨rfl,hb⟩;refine ⟨_,rfl,?_⟩;clear hs;intro a hs;replace hw:=hw.below hb;clear hb
    refine zB hs hw ?_;clear hs hw;intro a W hs hw
    refine aF hs (hc:=rU w0 _ p d key (some (.inl (IntKind.i64.wrap (0+n)))) _ hw) (k:=?_);rintro e0 W1 ⟨rfl,hw1⟩;refine ⟨_,rfl,?_⟩;clear hs hw;intro a hs;have hw:=hw1;clear hw1
    refine zA hs hw ?_;clear hs;intro a hs
    refine rt1 hs rfl rfl ⟨rfl,?_⟩
    exact hw.sub (List.Sublist.cons_cons _ (List.Sublist.cons _ (List.Sublist.cons _ (List.Sublist.cons _ (List.Sublist.refl _)))))
   ·have hK:=fun W=>oZ (some (Sum.inl g):Option DV) W
    have hA:=fun W=>vM (some (Sum.inl g):Option DV) W
    rw [show gA (some (Sum.inl g):Option DV)=1 from rfl] at hK⊢
    rw [show fE (some (Sum.inl g):Option DV)=g from rfl] at hA⊢
    rw [show mF (some (Sum.inl g):Option DV)=true from rfl] at hA⊢
    rw [if_neg (by decide)]
    refine zA hs hw ?_;clear hs;intro a hs
    refine aF hs (hc:=hA _) (k:=?_);rintro e0 W1 ⟨rfl,hb⟩;refine ⟨_,rfl,?_⟩;clear hs;intro a hs;replace hw:=hw.below hb;clear hb
    refine zA hs hw ?_;clear hs;intro a hs
    refine aF hs (hc:=hK _) (k:=?_);rintro e0 W1 ⟨rfl,hb⟩;refine ⟨_,rfl,?_⟩;clear hs;intro a hs;replace hw:=hw.below hb;clear hb
    refine zA hs hw ?_;clear hs;intro a hs
    refine aF hs (hc:=rV g _) (k:=?_);rintro e0 W1 ⟨rfl,hb⟩;refine ⟨_,rfl,?_⟩;clear hs;intro a hs;replace hw:=hw.below hb;clear hb
    refine zA hs hw ?_;clear hs;intro a hs
    cases g1:inB g with
    |false=>
     rw [g1] at hs
     refine zA hs hw ?_;clear hs;intro a hs
     rw [if_pos (by rfl)]
     exact rt1 hs rfl rfl ⟨rfl,hw.sub (List.Sublist.cons_cons _ (List.Sublist.cons _ (List.Sublist.cons _ (List.Sublist.cons _ (List.Sublist.refl _)))))⟩
    |true=>
    rw [g1] at hs
    refine zA hs hw ?_;clear hs;intro a hs
    refine aF hs (hc:=rV (IntKind.i64.wrap (g+n)) _) (k:=?_);rintro e0 W1 ⟨rfl,hb⟩;refine ⟨_,rfl,?_⟩;clear hs;intro a hs;replace hw:=hw.below hb;clear hb
    refine zA hs hw ?_;clear hs;intro a hs
    cases g2:inB (IntKind.i64.wrap (g+n)) with
    |false=>
     rw [g2] at hs
     refine zA hs hw ?_;clear hs;intro a hs
     rw [if_pos (by rfl)]
     exact rt1 hs rfl rfl ⟨rfl,hw.sub (List.Sublist.cons_cons _ (List.Sublist.cons _ (List.Sublist.cons _ (List.Sublist.cons _ (List.Sublist.refl _)))))⟩
    |true=>
    rw [g2] at hs
    refine zA hs hw ?_;clear hs;intro a hs
    rw [if_neg (by decide)]
    have hV:=fun W hT=>lI 1 (IntKind.i64.wrap (g+n)) ⟨#[]⟩ W (by decide) hT
    rw [show bU 1 (IntKind.i64.wrap (g+n)) ⟨#[]⟩=(some (.inl (IntKind.i64.wrap (g+n))),0) from rfl] at hV
    refine aF hs (hc:=hV _ (hT.keep (hw.endF (by repeat (first|exact i|apply In.tl)) hH))) (k:=?_);rintro e0 W1 ⟨rfl,hb⟩;refine ⟨_,rfl,?_⟩;clear hs;intro a hs;replace hw:=hw.below hb;clear hb
    refine zB hs hw ?_;clear hs hw;intro a W hs hw
    refine aF hs (hc:=rU w0 _ p d key (some (.inl (IntKind.i64.wrap (g+n)))) _ hw) (k:=?_);rintro e0 W1 ⟨rfl,hw1⟩;refine ⟨_,rfl,?_⟩;clear hs hw;intro a hs;have hw:=hw1;clear hw1
    refine zA hs hw ?_;clear hs;intro a hs
    refine rt1 hs rfl rfl ⟨rfl,?_⟩
    exact hw.sub (List.Sublist.cons_cons _ (List.Sublist.cons _ (List.Sublist.cons _ (List.Sublist.cons _ (List.Sublist.refl _)))))
   ·have hK:=fun W=>oZ (some (Sum.inr s):Option DV) W
    have hA:=fun W=>vM (some (Sum.inr s):Option DV) W
    rw [show gA (some (Sum.inr s):Option DV)=2 from rfl] at hK⊢
    rw [show mF (some (Sum.inr s):Option DV)=false from rfl] at hA⊢
    rw [if_pos (by decide)]
    refine zA hs hw ?_;clear hs;intro a hs
    refine aF hs (hc:=hA _) (k:=?_);rintro e0 W1 ⟨rfl,hb⟩;refine ⟨_,rfl,?_⟩;clear hs;intro a hs;replace hw:=hw.below hb;clear hb
    refine zA hs hw ?_;clear hs;intro a hs
    refine aF hs (hc:=hK _) (k:=?_);rintro e0 W1 ⟨rfl,hb⟩;refine ⟨_,rfl,?_⟩;clear hs;intro a hs;replace hw:=hw.below hb;clear hb
    refine zA hs hw ?_;clear hs;intro a hs
    exact rt1 hs rfl rfl ⟨rfl,hw.sub (List.Sublist.cons_cons _ (List.Sublist.cons _ (List.Sublist.cons _ (List.Sublist.cons _ (List.Sublist.refl _)))))⟩
  have e4:(kind == 4)=false:=by simpa using k4
  rw [e4] at hs
  rw [if_neg k4]
  refine zA hs hw ?_;clear hs;intro a hs
  refine aF hs (hc:=rU w0 _ p d key X _ hw) (k:=?_);rintro e0 W1 ⟨rfl,hw1⟩;refine ⟨_,rfl,?_⟩;clear hs hw;intro a hs;have hw:=hw1;clear hw1
  refine zA hs hw ?_;clear hs;intro a hs
  refine rt1 hs rfl rfl ⟨rfl,?_⟩
  exact hw.sub (List.Sublist.cons_cons _ (List.Sublist.cons _ (List.Sublist.cons _ (List.Sublist.cons _ (List.Sublist.refl _)))))
 all_goals
  intro u LD D a W hcl hi hp hs hw
  refine zA hs hw ?_;clear hs;intro a hs
  exact Or.inl ⟨hs,hw⟩
def unV:Value→DV
 | .agg ⟨[.iface _ (.int _ n)]⟩=> .inl n
 | .agg ⟨[.iface _ (.string s)]⟩=> .inr s
 |_=> .inl 0
theorem aEy (x:DV):unV (vOf x)=x:=by rcases x with n|s <;> rfl
theorem aEz {d d':Dm} (h:(cG d).Perm (cG d')):d.Perm d':=by
 have:=h.map fun p=>(p.1,unV p.2)
 unfold cG at this
 rw [List.map_map,List.map_map] at this
 have e:((fun p:ByteArray×Value=>(p.1,unV p.2))∘fun p:ByteArray×DV=>(p.1,vOf p.2))=id:=by
  funext p
  simp [aEy]
 rw [e] at this
 simpa using this
theorem aFA (d:Dm):(cG d).map (·.1)=d.map (·.1):=by simp [cG]
structure aFB where
 dn:Dm
 left:KV
 cur:Option (ByteArray×Value)
theorem aFC (w0 W:World) (m1 m2:Nat) (d:Dm) (R:List Res) (hk:dW d) (hw:Has 0 w0 W (bW m1 []::bW m2 (cG d)::R)):
  Calls Tryz.prog 244 ⟨[.map (some m1),.map (some m2)]⟩ W fun e W'=>e= .returned (.tuple #[])∧∃d',d'.Perm d∧Has 0 w0 W' (bW m1 (cG d')::bW m2 (cG d)::R):=by
 refine enter Tryz.func244 Tryz.ntmps244 rfl rfl fun a hs=>?_
 refine zA hs hw ?_;clear hs;intro a hs
 refine aEG hs (hw:=hw.swap2) (c:=?_);clear hs hw;intro a it W hw hs
 refine zG hs ?_
 refine bX (σ:=aFB) (fun t=>[(0,.map (some m1)),(7,.pointer (some ⟨it,0,none⟩))]) (fun t=>mC m2 it (cG d) t.left t.cur::bW m1 (cG t.dn)::R) (fun t=>(cG t.dn ++ t.left).Perm (cG d)) (fun t=>t.left.length) ⟨[],cG d,none⟩ (List.Perm.refl _) hs ⟨rfl,rfl,trivial⟩ hw ?_
 clear hs hw
 rintro ⟨dn,left,cur⟩ a W hp hs hw
 simp only at hp hs hw
 refine zG hs ?_
 refine aEH hs (hw:=hw) (c1:=?_) (c2:=?_)
 ·clear hs;intro a hl hs
  subst hl
  refine zA hs hw ?_;clear hs;intro a hs
  rw [List.append_nil] at hp
  exact cO hs rfl ⟨rfl,dn,aEz hp,hw.unranged.swap2⟩
 ·clear hs hw;intro a W p left' hpl hw hs
  have hp2:(cG dn ++ p::left').Perm (cG d):=(List.Perm.append_left _ hpl.symm).trans hp
  obtain ⟨k,x,rfl⟩:∃k x,p=(k,vOf x):=by
   have:p∈cG d:=hp2.mem_iff.1 (by simp)
   obtain ⟨q,_,rfl⟩:=List.mem_map.1 this
   exact ⟨q.1,q.2,rfl⟩
  have hnk:k∉(cG dn).map (·.1):=by
   have h1:((cG dn ++ (k,vOf x)::left').map (·.1)).Nodup:=(hp2.map _).nodup_iff.2 (by rw [aFA];exact hk)
   rw [List.map_append,List.nodup_append] at h1
   intro h2
   exact h1.2.2 k h2 k (by simp) rfl
  have hnew:fR (cG dn) k (vOf x)=cG (dn ++ [(k,x)]):=by
   rw [aAB _ hnk];simp [cG]
  simp only at hs
  refine zA hs hw ?_;clear hs;intro a hs
  refine aEI hs (hw:=hw) (c:=?_);clear hs;intro a hs
  simp only at hs
  repeat (first|(refine sxv hs hw ?_;clear hs;intro a hs)|refine sxc hs ?_|(refine sxa hs hw ?_;clear hs hw;intro a b W hw hs)|(refine sxs hs hw ?_;clear hs hw;intro W hs hw))
  refine d6 hs (hw:=hw) (h1:=pA (some x)) (k:=?_);clear hs hw;intro W hs hw
  refine zA hs hw ?_;clear hs;intro a hs
  refine oT hs (hw:=hw) (v:=vOf x) (c:=?_);clear hs hw;intro W hs hw
  rw [hnew] at hw
  refine zG hs ?_
  refine bR ⟨dn ++ [(k,x)],left',some (k,vOf x)⟩ hs (hw.sub (List.Sublist.cons _ (List.Sublist.refl _))) ?_ ?_ ⟨rfl,rfl,trivial⟩
  ·show (cG (dn ++ [(k,x)]) ++ left').Perm _
   have:cG (dn ++ [(k,x)]) ++ left'=cG dn ++ (k,vOf x)::left':=by simp [cG]
   rw [this];exact hp2
  ·show left'.length<left.length
   rw [hpl.length_eq];simp
theorem pC (w0 W:World) (p:Nat) (d:Dm) (R:List Res) (hw:Has 0 w0 W (bI p d::R)):
  Calls Tryz.prog 171 ⟨[.pointer (some ⟨p,0,none⟩)]⟩ W fun e W'=>∃c,e= .returned (.pointer (some ⟨c,0,none⟩))∧Has 0 w0 W' (bI c d::bI p d::R):=by
 refine enter Tryz.func171 Tryz.ntmps171 rfl rfl fun a hs=>?_
 refine zC hs hw ?_;clear hs;intro a hs
 refine aF hs (hc:=vY w0 _ _ hw) (k:=?_);rintro e0 W1 ⟨c,rfl,hw1⟩;refine ⟨_,rfl,?_⟩;clear hs hw;intro a hs;have hw:=hw1;clear hw1
 refine zC hs hw ?_;clear hs;intro a hs
 obtain ⟨m1,d1,hp1, -,hw⟩:=iW hw
 obtain rfl:d1= []:=List.Perm.eq_nil hp1
 obtain ⟨m2,d2,hp2,hk2,hw⟩:=iW (hw.perm ((List.Perm.cons _ (List.Perm.swap _ _ _)).trans (List.Perm.swap _ _ _)))
 have hw:Has 0 w0 _ (aA c [.map (some m1)] 177::aA p [.map (some m2)] 177::bW m1 (cG [])::bW m2 (cG d2)::R):=hw.pm
 refine gK (V:=[.pointer (some ⟨c,0,none⟩),.pointer (some ⟨c,0,none⟩),.pointer (some ⟨c,0+0,none⟩),.map (some m1),.pointer (some ⟨p,0,none⟩),.pointer (some ⟨p,0,none⟩),.pointer (some ⟨p,0+0,none⟩),.map (some m2),.tuple #[]])
  (Rs:=fun D=>aA c [.map (some m1)] 177::aA p [.map (some m2)] 177::(if D 8 then Ex (fun d3:Dm=>bW m1 (cG d3)::bN (d3.Perm d2):: []) else bW m1 (cG []))::bW m2 (cG d2)::R) hs hw (ho:=⟨?_,?_,?_,?_,?_,?_,?_,?_,?c8_2,trivial⟩) (k:=?k_2)
 case c8_2=>
  intro LD D a W hcl hi hp hs hw
  simp only [hi,Bool.false_eq_true,if_false] at hw
  have hw:Has 0 w0 W (bW m1 []::bW m2 (cG d2)::aA c [.map (some m1)] 177::aA p [.map (some m2)] 177::R):=hw.pm
  refine aF hs (hc:=aFC w0 _ m1 m2 d2 _ ((iU hp2).2 hk2) hw) (k:=?_);rintro e0 W1 ⟨rfl,d3,h3,hw1⟩;refine ⟨_,rfl,?_⟩;clear hs hw;intro a hs;have hw:=hw1;clear hw1
  refine zG hs ?_
  refine ⟨hs,?_⟩
  have hw:=Has.shut (Ls:=fun d3:Dm=>bW m1 (cG d3)::bN (d3.Perm d2):: []) d3 (hw.fact h3 |>.perm (List.Perm.swap _ _ _))
  exact hw.pm
 case k_2=>
  clear hs hw
  intro a W hs hw
  replace hw:Has 0 w0 W (aA c [.map (some m1)] 177::aA p [.map (some m2)] 177::Ex (fun d3:Dm=>bW m1 (cG d3)::bN (d3.Perm d2):: [])::bW m2 (cG d2)::R):=hw
  obtain ⟨d3,hw⟩:=Has.open (hw.perm (List.Perm.trans (List.Perm.cons _ (List.Perm.swap _ _ _)) (List.Perm.swap _ _ _)))
  have hw:Has 0 w0 W (bW m1 (cG d3)::bN (d3.Perm d2)::aA c [.map (some m1)] 177::aA p [.map (some m2)] 177::bW m2 (cG d2)::R):=hw
  have h3:=hw.told (In.tl In.hd)
  refine zA hs hw ?_;clear hs;intro a hs
  have hw:Has 0 w0 _ (aA p [.map (some m2)] 177::bW m2 (cG d2)::aA c [.map (some m1)] 177::bW m1 (cG d3)::R):=hw.drop2.pm
  have hw:=iV hw hp2 hk2
  have hw:Has 0 w0 _ (aA c [.map (some m1)] 177::bW m1 (cG d3)::bI p d::R):=hw.pm
  have hw:=iV hw (h3.trans hp2) hk2
  exact rt1 hs rfl rfl ⟨c,rfl,hw⟩
 all_goals
  intro LD D a W hcl hi hp hs hw
  refine zA hs hw ?_;clear hs;intro a hs
  exact ⟨hs,hw⟩
def fF (o:OpD):Bool:=eS o.kind o.key o.vk o.vn o.vs o.ok o.on o.os o.n
def dM (c q:Int) (l:List OpD):Bool:=
 !(decide (c<1)) && !(decide (c > 5)) && !(decide (q<1)) && !(decide (q > 1099511627776)) && !(decide ((l.length:Int)<1)) && !(decide ((l.length:Int) > 8)) && l.all fF && decide (((d9 c q l).length:Int)≤1200)
theorem rW (c q:Int) (l:List OpD) (sv:Value) (w:World) (hc:i64 c) (hq:i64 q) (ho:∀o∈l,OpOk o) (r:Rd w 9 sv l.length (l.flatMap bT)) (hT:Tabs w):
  Calls Tryz.prog 176 ⟨[.agg ⟨[.int .i64 c,.int .i64 q,sv]⟩]⟩ w fun e w'=>e= .returned (.bool (dM c q l))∧Below w.heap.size w w':=by
 have hw:=Has.start (G:=0) (w:=w) (Nat.zero_le _)
 obtain ⟨sad,scap,rfl⟩:∃ad cap,sv= .slice ad l.length cap:=by obtain ⟨_,ad,cap,e,_⟩:=r;exact ⟨ad,cap,e⟩
 have hlen:l.length≤9223372036854775807:=r.len
 refine enter Tryz.func176 Tryz.ntmps176 rfl rfl fun a hs=>?_
 repeat (first|(refine sxv hs hw ?_;clear hs;intro a hs)|refine sxc hs ?_|(refine sxa hs hw ?_;clear hs hw;intro a b W hw hs)|(refine sxs hs hw ?_;clear hs hw;intro W hs hw))
 cases h0:decide (c<1) with
 |true=>
  rw [h0] at hs
  refine zA hs hw ?_;clear hs;intro a hs
  exact rt1 hs rfl rfl ⟨by simp only [dM,h0];rfl,hw.end (by repeat (first|exact In.hd|apply In.tl))⟩
 |false=>
 rw [h0] at hs
 refine zA hs hw ?_;clear hs;intro a hs
 cases h1:decide (c > 5) with
 |true=>
  rw [h1] at hs
  refine zA hs hw ?_;clear hs;intro a hs
  exact rt1 hs rfl rfl ⟨by simp only [dM,h0,h1];rfl,hw.end (by repeat (first|exact In.hd|apply In.tl))⟩
 |false=>
 rw [h1] at hs
 refine zA hs hw ?_;clear hs;intro a hs
 cases h2:decide (q<1) with
 |true=>
  rw [h2] at hs
  refine zA hs hw ?_;clear hs;intro a hs
  exact rt1 hs rfl rfl ⟨by simp only [dM,h0,h1,h2];rfl,hw.end (by repeat (first|exact In.hd|apply In.tl))⟩
 |false=>
 rw [h2] at hs
 refine zA hs hw ?_;clear hs;intro a hs
 cases h3:decide (q > 1099511627776) with
 |true=>
  rw [h3] at hs
  refine zA hs hw ?_;clear hs;intro a hs
  exact rt1 hs rfl rfl ⟨by simp only [dM,h0,h1,h2,h3];rfl,hw.end (by repeat (first|exact In.hd|apply In.tl))⟩
 |false=>
 rw [h3] at hs
 refine zA hs hw ?_;clear hs;intro a hs
 cases h4:decide ((l.length:Int)<1) with
 |true=>
  rw [h4] at hs
  refine zA hs hw ?_;clear hs;intro a hs
  exact rt1 hs rfl rfl ⟨by simp only [dM,h0,h1,h2,h3,h4];rfl,hw.end (by repeat (first|exact In.hd|apply In.tl))⟩
 |false=>
 rw [h4] at hs
 refine zA hs hw ?_;clear hs;intro a hs
 cases h5:decide ((l.length:Int) > 8) with
 |true=>
  rw [h5] at hs
  refine zA hs hw ?_;clear hs;intro a hs
  exact rt1 hs rfl rfl ⟨by simp only [dM,h0,h1,h2,h3,h4,h5];rfl,hw.end (by repeat (first|exact In.hd|apply In.tl))⟩
 |false=>
 rw [h5] at hs
 refine zA hs hw ?_;clear hs;intro a hs
 have h8:l.length≤8:=by simp at h5;omega
 have hmb:dM c q l=(l.all fF && decide (((d9 c q l).length:Int)≤1200)):=by unfold dM;rw [h0,h1,h2,h3,h4,h5];simp
 rw [hmb]
 clear hmb h0 h1 h2 h3 h4 h5
 obtain ⟨b1,q1⟩:=nm1 hw;subst q1
 have hw:Has 0 w _ (aA b1 [.int .i64 c,.int .i64 q,.slice sad l.length scap] 66::Old w 0:: []):=hw
 refine bX (σ:=Nat) (fun i=>[(1,.pointer (some ⟨b1,0,none⟩)),(36,.slice sad l.length scap),(37,.int .i64 (l.length:Int)),(38,.int .i64 (i:Int))]) (fun _=>aA b1 [.int .i64 c,.int .i64 q,.slice sad l.length scap] 66::Old w 0:: []) (fun i=>i≤l.length∧(l.take i).all fF=true) (fun i=>l.length - i) 0 ⟨Nat.zero_le _,rfl⟩ hs ⟨rfl,rfl,rfl,rfl,trivial⟩ hw ?_
 clear hs hw
 rintro i a W ⟨hi,ha⟩ hs hw
 refine zA hs hw ?_;clear hs;intro a hs
 refine cI hs (kt:=fun hcc=>?_) (kf:=fun hcc=>?_)
 ·have hi':i<l.length:=by simpa using hcc
  obtain ⟨o,hoi⟩:∃o,l[i]? =some o:=⟨l[i],List.getElem?_eq_getElem hi'⟩
  have hok:=ho o (List.mem_of_getElem? hoi)
  have hnext:(l.take (i+1)).all fF=fF o:=by
   rw [List.take_add_one,hoi,List.all_append,ha];simp
  have hall:fF o=false→l.all fF=false:=fun h=>by
   rw [List.all_eq_false]
   exact ⟨o,List.mem_of_getElem? hoi,by rw [h];simp⟩
  refine zG hs ?_
  refine vR hs (r:=hw.rd (by repeat (first|exact In.hd|apply In.tl)) hw.ext.size r) (ho:=hoi) (c:=?_);clear hs;intro a p off hpc hs
  refine eC (z:=bT ⟨0,⟨#[]⟩,0,0,⟨#[]⟩,0,0,⟨#[]⟩,0⟩) hs (hc:=hpc) (hl:=rfl) (c:=?_);clear hs;intro a hs
  obtain ⟨kind,key,vk,vn,vs,ok,on,os,n⟩:=o
  simp only [bT] at hs
  clear hpc
  have hkey:=hok.key
  have hvs:=hok.vs
  have hos:=hok.os
  simp only at hkey hvs hos
  repeat (first|(refine sxv hs hw ?_;clear hs;intro a hs)|refine sxc hs ?_|(refine sxa hs hw ?_;clear hs hw;intro a b W hw hs)|(refine sxs hs hw ?_;clear hs hw;intro W hs hw))
  refine aF hs (hc:=aAS kind key vk vn vs ok on os n _ (by omega) (by omega) (by omega) (hT.keep (hw.end (by repeat (first|exact In.hd|apply In.tl))))) (k:=?_);rintro e0 W1 ⟨rfl,hb⟩;refine ⟨_,rfl,?_⟩;clear hs;intro a hs;replace hw:=hw.below hb;clear hb
  rw [show eS kind key vk vn vs ok on os n=fF ⟨kind,key,vk,vn,vs,ok,on,os,n⟩ from rfl] at hs
  cases hm:fF ⟨kind,key,vk,vn,vs,ok,on,os,n⟩ with
  |false=>
   rw [hm] at hs
   refine zA hs hw ?_;clear hs;intro a hs
   exact rt1 hs rfl rfl ⟨by rw [hall hm];rfl,hw.end (by repeat (first|exact In.hd|apply In.tl))⟩
  |true=>
   rw [hm] at hs hnext
   refine zA hs hw ?_;clear hs;intro a hs
   have hw:=hw.sub (List.Sublist.cons _ (List.Sublist.refl _))
   exact bR (i+1) hs hw ⟨by omega,hnext⟩ (by show l.length - (i+1)<l.length - i;omega) ⟨rfl,rfl,rfl,bS (by show IntKind.i64.wrap ((i:Int)+1)=((i+1:Nat):Int);rw [IntWalk.i64_in _ (by omega)];omega),trivial⟩
 ·have hi':i=l.length:=by simp at hcc;omega
  subst hi'
  rw [List.take_length] at ha
  rw [ha]
  refine zA hs hw ?_;clear hs;intro a hs
  refine aF hs (hc:=aAU c q l _ _ hc hq (by omega) ho (hw.rd (by repeat (first|exact In.hd|apply In.tl)) hw.ext.size r)) (k:=?_);rintro e0 W1 ⟨ad,cap,rfl,hw1⟩;refine ⟨_,rfl,?_⟩;clear hs;intro a hs;replace hw:=hw.call hw1;clear hw1
  refine zA hs hw ?_;clear hs;intro a hs
  exact rt1 hs rfl rfl ⟨by simp,hw.end (by repeat (first|exact In.hd|apply In.tl))⟩
theorem pD (c q:Int) (l:List OpD) (sv:Value) (w:World) (hc:i64 c) (hq:i64 q) (ho:∀o∈l,OpOk o) (r:Rd w 9 sv l.length (l.flatMap bT)) (hT:Tabs w):
  Calls Tryz.prog 117 ⟨[.agg ⟨[.int .i64 c,.int .i64 q,sv]⟩]⟩ w fun e w'=>∃ad cap,e= .returned (.slice ad (if dM c q l then d9 c q l else []).length cap)∧(dM c q l=false→ad=none∧cap=0)∧Has 0 w w' (OwnB 5 (.slice ad (if dM c q l then d9 c q l else []).length cap) (if dM c q l then d9 c q l else [])::Old w 0:: []):=by
 have hw:=Has.start (G:=0) (w:=w) (Nat.zero_le _)
 obtain ⟨sad,scap,rfl⟩:∃ad cap,sv= .slice ad l.length cap:=by obtain ⟨_,ad,cap,e,_⟩:=r;exact ⟨ad,cap,e⟩
 have hlen:l.length≤9223372036854775807:=r.len
 refine enter Tryz.func117 Tryz.ntmps117 rfl rfl fun a hs=>?_
 repeat (first|(refine sxv hs hw ?_;clear hs;intro a hs)|refine sxc hs ?_|(refine sxa hs hw ?_;clear hs hw;intro a b W hw hs)|(refine sxs hs hw ?_;clear hs hw;intro W hs hw))
 refine aF hs (hc:=rW c q l _ _ hc hq ho (hw.rd (by repeat (first|exact In.hd|apply In.tl)) hw.ext.size r) (hT.keep (hw.end (by repeat (first|exact In.hd|apply In.tl))))) (k:=?_);rintro e0 W1 ⟨rfl,hb⟩;refine ⟨_,rfl,?_⟩;clear hs;intro a hs;replace hw:=hw.below hb;clear hb
 cases hm:dM c q l with
 |false=>
  rw [hm] at hs
  refine zA hs hw ?_;clear hs;intro a hs
  have hw:=(hw.nilB 5).sub (List.Sublist.cons_cons _ (List.Sublist.cons _ (List.Sublist.refl _)))
  exact rt1 hs rfl rfl ⟨none,0,rfl,fun _=>⟨rfl,rfl⟩,hw⟩
 |true=>
  rw [hm] at hs
  have h8:l.length≤8:=by
   unfold dM at hm
   simp only [Bool.and_eq_true,Bool.not_eq_true',decide_eq_false_iff_not] at hm
   omega
  refine zA hs hw ?_;clear hs;intro a hs
  refine aF hs (hc:=aAU c q l _ _ hc hq (by omega) ho (hw.rd (by repeat (first|exact In.hd|apply In.tl)) hw.ext.size r)) (k:=?_);rintro e0 W1 ⟨ad,cap,rfl,hw1⟩;refine ⟨_,rfl,?_⟩;clear hs;intro a hs;replace hw:=hw.call hw1;clear hw1
  refine zA hs hw ?_;clear hs;intro a hs
  have hw:=hw.sub (List.Sublist.cons_cons _ (List.Sublist.cons _ (List.Sublist.refl _)))
  exact rt1 hs rfl rfl ⟨ad,cap,rfl,fun h=>(Bool.noConfusion h),hw⟩
def goD:List OpD→Dm→Int×Dm
 | [],d=>(0,d)
 |o::l,d=>if fF o=false then (1,d) else if (jF d o).1=0 then goD l (jF d o).2 else ((jF d o).1,d)
def iX (d:Dm) (l:List OpD):Int×Dm:=
 if l.length=0∨8<l.length then (1,d) else if (goD l d).1=0 then (0,(goD l d).2) else ((goD l d).1,d)
structure OpW (o:OpD):Prop where
 key:o.key.size≤9223372036854775807
 vs:o.vs.size≤9223372036854775807
 os:o.os.size≤9223372036854775807
 ok:fF o=true→OpOk o
theorem OpOk.w {o:OpD} (h:OpOk o):OpW o:=⟨by have:=h.key;omega,by have:=h.vs;omega,by have:=h.os;omega,fun _=>h⟩
theorem aFD (w0 W : World) (H : Fh) (p : Nat) (d : Dm) (l : List OpD) (sv : Value) (R : List Res) (ho : ∀ o ∈ l, OpW o) (r : RdH H 9 sv l.length (l.flatMap bT)) (i : In (Fz H) R) (hH : (fr w0).le H) (hT : Tabs w0) (hw : Has 0 w0 W (bI p d :: R)) :
    Calls Tryz.prog 173 ⟨[.pointer (some ⟨p, 0, none⟩), sv]⟩ W fun e W' => e = .returned (.int .i64 (iX d l).1) ∧ Has 0 w0 W' (bI p (iX d l).2 :: R) := by
  obtain ⟨sad, scap, rfl⟩ := r.slice
  have hlen := r.len
  refine enter Tryz.func173 Tryz.ntmps173 rfl rfl fun a hs => ?_
  refine zC hs hw ?_; clear hs; intro a hs
  cases h0 : ((l.length : Int) == 0) with
  | true =>
    rw [h0] at hs
    refine zC hs hw ?_; clear hs; intro a hs
    have hX : iX d l = (1, d) := by
      unfold iX
      rw [if_pos (.inl (by have : (l.length : Int) = 0 := by simpa using h0
                           omega))]
    exact rt1 hs rfl rfl ⟨by rw [hX], by rw [hX]; exact hw⟩
  | false =>
  rw [h0] at hs
  refine zC hs hw ?_; clear hs; intro a hs
  cases h8 : decide ((l.length : Int) > 8) with
  | true =>
    rw [h8] at hs
    refine zC hs hw ?_; clear hs; intro a hs
    have hX : iX d l = (1, d) := by
      unfold iX
      rw [if_pos (.inr (by have := of_decide_eq_true h8; omega))]
    exact rt1 hs rfl rfl ⟨by rw [hX], by rw [hX]; exact hw⟩
  | false =>
  rw [h8] at hs
  refine zC hs hw ?_; clear hs; intro a hs
  have hX : iX d l = (if (goD l d).1 = 0 then (0, (goD l d).2) else ((goD l d).1, d)) := by
    unfold iX
    rw [if_neg]
    rintro (h | h)
    · rw [h] at h0; simp at h0
    · have := of_decide_eq_false h8; omega
  rw [hX]
  clear hX h0 h8
  refine aF hs (hc := pC w0 _ p d _ hw) (k := ?_); rintro e0 W1 ⟨c, rfl, hw1⟩; refine ⟨_, rfl, ?_⟩; clear hs hw; intro a hs; have hw := hw1; clear hw1
  refine zC hs hw ?_; clear hs; intro a hs
  refine bX (σ := Nat × Dm) (fun t => [(0, .pointer (some ⟨p, 0, none⟩)), (5, .pointer (some ⟨c, 0, none⟩)), (23, .slice sad l.length scap), (24, .int .i64 (l.length : Int)), (25, .int .i64 (t.1 : Int))]) (fun t => bI c t.2 :: bI p d :: R) (fun t => t.1 ≤ l.length ∧ goD (l.drop t.1) t.2 = goD l d) (fun t => l.length - t.1) (0, d) ⟨Nat.zero_le _, rfl⟩ hs ⟨rfl, rfl, rfl, rfl, rfl, trivial⟩ hw ?_
  clear hs hw
  rintro ⟨j, dc⟩ a W ⟨hj, hgo⟩ hs hw
  simp only at hj hgo hs hw
  refine zC hs hw ?_; clear hs; intro a hs
  refine cI hs (kt := fun hcc => ?_) (kf := fun hcc => ?_)
  · have hj' : j < l.length := by have := of_decide_eq_true hcc; omega
    obtain ⟨o, hoi⟩ : ∃ o, l[j]? = some o := ⟨l[j], List.getElem?_eq_getElem hj'⟩
    have hok := ho o (List.mem_of_getElem? hoi)
    have hdrop : l.drop j = o :: l.drop (j + 1) := by
      rw [List.drop_eq_getElem_cons hj']
      congr 1
      rw [List.getElem?_eq_getElem hj'] at hoi
      exact Option.some.inj hoi
    rw [hdrop] at hgo
    simp only [goD] at hgo
    refine zG hs ?_
    refine vR hs (r := hw.rdH (by repeat (first | exact i | apply In.tl)) r) (ho := hoi) (c := ?_); clear hs; intro a q off hpc hs
    refine eC (z := bT ⟨0, ⟨#[]⟩, 0, 0, ⟨#[]⟩, 0, 0, ⟨#[]⟩, 0⟩) hs (hc := hpc) (hl := rfl) (c := ?_); clear hs; intro a hs
    clear hpc
    have hM := fun W hT => aAS o.kind o.key o.vk o.vn o.vs o.ok o.on o.os o.n W hok.key hok.vs hok.os hT
    have hM : ∀ W, Tabs W → Calls Tryz.prog 245 ⟨[.agg ⟨bT o⟩]⟩ W fun e w' => e = .returned (.bool (fF o)) ∧ Below W.heap.size W w' := hM
    repeat (first | (refine sxv hs hw ?_; clear hs; intro a hs) | refine sxc hs ?_ | (refine sxa hs hw ?_; clear hs hw; intro a b W hw hs) | (refine sxs hs hw ?_; clear hs hw; intro W hs hw) | ((with_reducible first | refine eQ hs (k := ?_) | refine eR hs (k := ?_)); clear hs; intro a hs))
    obtain ⟨b7, q7⟩ := nm1 hw; subst q7
    have hw : Has 0 w0 _ (aA b7 (bT o) 55 :: bI c dc :: bI p d :: R) := hw
    refine aF hs (hc := hM _ (hT.keep (hw.endF (by repeat (first | exact i | apply In.tl)) hH))) (k := ?_); rintro e0 W1 ⟨rfl, hb⟩; refine ⟨_, rfl, ?_⟩; clear hs; intro a hs; replace hw := hw.below hb; clear hb
    refine zC hs hw ?_; clear hs; intro a hs
    cases hm : fF o with
    | false =>
      rw [hm] at hs hgo
      rw [if_pos rfl] at hgo
      refine zC hs hw ?_; clear hs; intro a hs
      rw [← hgo, if_neg (by show ¬ (1 : Int) = 0; decide)]
      exact rt1 hs rfl rfl ⟨rfl, hw.sub (List.Sublist.cons _ (List.Sublist.cons _ (List.Sublist.refl _)))⟩
    | true =>
    rw [hm] at hs hgo
    rw [if_neg (by decide)] at hgo
    refine zC hs hw ?_; clear hs; intro a hs
    refine aF hs (hc := aEx w0 _ H c dc o _ (hok.ok hm) (by repeat (first | exact i | apply In.tl)) hH hT hw.swap2) (k := ?_); rintro e0 W1 ⟨rfl, hw1⟩; refine ⟨_, rfl, ?_⟩; clear hs hw; intro a hs; have hw := hw1; clear hw1
    refine zC hs hw ?_; clear hs; intro a hs
    cases he : ((jF dc o).1 != 0) with
    | true =>
      rw [he] at hs
      rw [if_neg (by simpa using he)] at hgo
      refine zC hs hw ?_; clear hs; intro a hs
      rw [← hgo, if_neg (by simpa using he)]
      exact rt1 hs rfl rfl ⟨rfl, hw.sub (List.Sublist.cons _ (List.Sublist.cons _ (List.Sublist.refl _)))⟩
    | false =>
    rw [he] at hs
    rw [if_pos (by simpa using he)] at hgo
    refine zC hs hw ?_; clear hs; intro a hs
    exact bR (j + 1, (jF dc o).2) hs hw.drop2 ⟨by show j + 1 ≤ l.length; omega, hgo⟩ (by show l.length - (j + 1) < l.length - j; omega) ⟨rfl, rfl, rfl, rfl, bS (by show IntKind.i64.wrap ((j : Int) + 1) = ((j + 1 : Nat) : Int); rw [IntWalk.i64_in _ (by omega)]; omega), trivial⟩
  · have hj' : j = l.length := by have := of_decide_eq_false hcc; omega
    subst hj'
    rw [List.drop_length] at hgo
    rw [← hgo]
    simp only [goD, if_true]
    obtain ⟨m1, d1, hp1, hk1, hw⟩ := iW hw
    have hw : Has 0 w0 _ (bI p d :: aA c [.map (some m1)] 177 :: bW m1 (cG d1) :: R) := hw.pm
    obtain ⟨m2, d2, hp2, hk2, hw⟩ := iW hw
    refine zD hs hw ?_; clear hs hw; intro a W hs hw
    have hw : Has 0 w0 _ (aA p [.map (some m1)] 177 :: bW m1 (cG d1) :: bW m2 (cG d2) :: aA c [.map (some m1)] 177 :: R) := hw.pm
    have hw := iV hw hp1 hk1
    exact rt1 hs rfl rfl ⟨rfl, hw.sub (List.Sublist.cons_cons _ (List.Sublist.cons _ (List.Sublist.cons _ (List.Sublist.refl _))))⟩
theorem aFE (w0 W:World) (H:Fh) (p:Nat) (d:Dm) (l:List OpD) (sv:Value) (R:List Res) (ho:∀o∈l,OpOk o) (r:RdH H 9 sv l.length (l.flatMap bT)) (i:In (Fz H) R) (hH:(fr w0).le H) (hT:Tabs w0) (hw:Has 0 w0 W (bI p d::R)):
  Calls Tryz.prog 173 ⟨[.pointer (some ⟨p,0,none⟩),sv]⟩ W fun e W'=>e= .returned (.int .i64 (iX d l).1)∧Has 0 w0 W' (bI p (iX d l).2::R):=
 aFD w0 W H p d l sv R (fun o h=>(ho o h).w) r i hH hT hw
end Go.Proofs.YtgpbngfehfbndaaGreatDoor.Sw
namespace Go.Proofs.YtgpbngfehfbndaaGreatDoor.Sw
open Go.RowKit
end Go.Proofs.YtgpbngfehfbndaaGreatDoor.Sw
namespace Go.Proofs.YtgpbngfehfbndaaGreatDoor.Sw
open Go.RowKit Go.Sx
theorem aFF {s t:ByteArray} (h:s.toList=t.toList):s=t:=by
 rw [Go.ByteArray.toList_eq,Go.ByteArray.toList_eq] at h
 apply ByteArray.ext
 exact Array.toList_inj.1 h
theorem aA0 (s:ByteArray):(⟨s.data.toList.toArray⟩:ByteArray)=s:=by
 apply ByteArray.ext
 simp
theorem pE {k n:Int} {s:ByteArray} {k' n':Int} {s':ByteArray}:d8 k n s k' n' s'=true↔k=k'∧n=n'∧s=s':=by
 unfold d8
 simp only [Bool.and_eq_true,beq_iff_eq]
 constructor
 ·rintro ⟨⟨h1,h2⟩,h3⟩
  exact ⟨h1,h2,aFF h3⟩
 ·rintro ⟨rfl,rfl,rfl⟩
  exact ⟨⟨rfl,rfl⟩,rfl⟩
theorem mI {c q:Int} {l:List OpD} (h:dM c q l=true):(1≤c∧c≤5)∧(1≤q∧q≤1099511627776)∧(1≤l.length∧l.length≤8)∧l.all fF=true∧(d9 c q l).length≤1200:=by
 unfold dM at h
 simp only [Bool.and_eq_true,Bool.not_eq_true',decide_eq_false_iff_not,decide_eq_true_eq] at h
 obtain ⟨⟨⟨⟨⟨⟨⟨h1,h2⟩,h3⟩,h4⟩,h5⟩,h6⟩,h7⟩,h8⟩:=h
 exact ⟨by omega,by omega,by omega,h7,by omega⟩
def kJ (o o':OpD):Bool:=(o.kind == o'.kind) && (o.key.toList == o'.key.toList) && d8 o.vk o.vn o.vs o'.vk o'.vn o'.vs && d8 o.ok o.on o.os o'.ok o'.on o'.os && (o.n == o'.n)
def lK (l l':List OpD):Bool:=(l.zip l').all fun p=>kJ p.1 p.2
theorem aFG (c q:Int) (l:List OpD):0<(d9 c q l).length:=by
 have h4:0<(Ph.putI c).length:=List.length_pos_iff.2 (Ph.putI_ne_nil c)
 unfold d9 iB
 simp only [List.length_append]
 omega
def aA1 (a b:ByteArray):Bool:=Ph.lessL a.data.toList b.data.toList
def pF:Dm→ByteArray→DV→Dm
 | [],k,v=>[(k,v)]
 |p::d,k,v=>match aA1 p.1 k with
  |false=>(k,v)::gB (p::d) k
  |true=>match ks k p.1 with
   |true=>pF d k v
   |false=>p::pF d k v
theorem aFH (p:ByteArray×DV) (d:Dm) (k:ByteArray):gB (p::d) k=match ks k p.1 with|true=>gB d k|false=>p::gB d k:=by
 unfold gB
 rw [List.filter_cons]
 cases ks k p.1 <;> rfl
theorem vZ:∀(d:Dm) (k:ByteArray) (v:DV),(pF d k v).Perm (jV d k v)
 | [],k,v=>List.Perm.refl _
 |p::d,k,v=>by
  have ih:=vZ d k v
  unfold jV at ih⊢
  simp only [pF]
  cases aA1 p.1 k with
  |false=>exact List.Perm.refl _
  |true=>
   simp only
   rw [aFH]
   cases ks k p.1 with
   |true=>exact ih
   |false=>exact (ih.cons p).trans (List.Perm.swap _ _ _)
def pG (d:Dm) (k:ByteArray) (x:Option DV):Int×Dm:=
 match x with
 |none=>(0,gB d k)
 |some v=>if (dA d k).isSome=false∧50≤d.length then (6,d) else (0,pF d k v)
def doL (d:Dm) (o:OpD):Int×Dm:=
 if o.kind=3 then (if eqV (dA d o.key) (bU o.ok o.on o.os).1 then pG d o.key (bU o.vk o.vn o.vs).1 else (8,d))
 else if o.kind=4 then
  if (gA (dA d o.key) !=0 && !mF (dA d o.key))=true then (7,d)
  else if (!inB (fE (dA d o.key)) || !inB (IntKind.i64.wrap (fE (dA d o.key)+o.n)))=true then (4,d)
  else pG d o.key (some (.inl (IntKind.i64.wrap (fE (dA d o.key)+o.n))))
 else pG d o.key (bU o.vk o.vn o.vs).1
def goL:List OpD→Dm→Int×Dm
 | [],d=>(0,d)
 |o::l,d=>if fF o=false then (1,d) else if (doL d o).1=0 then goL l (doL d o).2 else ((doL d o).1,d)
def dN (d:Dm) (l:List OpD):Int×Dm:=
 if l.length=0∨8<l.length then (1,d) else if (goL l d).1=0 then (0,(goL l d).2) else ((goL l d).1,d)
def rX (a b:Int×Dm):Prop:=a.1=b.1∧a.2.Perm b.2∧dW b.2
theorem v6 {d d':Dm} (hp:d'.Perm d) (hk:dW d) (k:ByteArray) (x:Option DV):rX (gV d' k x) (pG d k x):=by
 cases x with
 |none=>exact ⟨rfl,vW hp k,vV hk k⟩
 |some v=>
  unfold gV pG
  simp only
  rw [pB hp ((iU hp).2 hk),hp.length_eq]
  by_cases h:(dA d k).isSome=false∧50≤d.length
  ·rw [if_pos h,if_pos h]
   exact ⟨rfl,hp,hk⟩
  ·rw [if_neg h,if_neg h]
   exact ⟨rfl,(aAW hp k v).trans (vZ d k v).symm,(iU (vZ d k v)).2 (aAV hk k v)⟩
theorem aFI {d d':Dm} (hp:d'.Perm d) (hk:dW d) (o:OpD):rX (jF d' o) (doL d o):=by
 unfold jF doL
 rw [pB hp ((iU hp).2 hk)]
 split
 ·split
  ·exact v6 hp hk _ _
  ·exact ⟨rfl,hp,hk⟩
 ·split
  ·split
   ·exact ⟨rfl,hp,hk⟩
   ·split
    ·exact ⟨rfl,hp,hk⟩
    ·exact v6 hp hk _ _
  ·exact v6 hp hk _ _
theorem aA2:∀(l:List OpD) {d d':Dm},d'.Perm d→dW d→rX (goD l d') (goL l d)
 | [],d,d',hp,hk=>⟨rfl,hp,hk⟩
 |o::l,d,d',hp,hk=>by
  unfold goD goL
  obtain ⟨h1,h2,h3⟩:=aFI hp hk o
  by_cases hm:fF o=false
  ·rw [if_pos hm,if_pos hm]
   exact ⟨rfl,hp,hk⟩
  ·rw [if_neg hm,if_neg hm,h1]
   by_cases he:(doL d o).1=0
   ·rw [if_pos he,if_pos he]
    exact aA2 l h2 h3
   ·rw [if_neg he,if_neg he]
    exact ⟨rfl,hp,hk⟩
theorem aFJ {d d':Dm} (hp:d'.Perm d) (hk:dW d) (l:List OpD):rX (iX d' l) (dN d l):=by
 unfold iX dN
 obtain ⟨h1,h2,h3⟩:=aA2 l hp hk
 by_cases h:l.length=0∨8<l.length
 ·rw [if_pos h,if_pos h]
  exact ⟨rfl,hp,hk⟩
 ·rw [if_neg h,if_neg h,h1]
  by_cases he:(goL l d).1=0
  ·rw [if_pos he,if_pos he]
   exact ⟨rfl,h2,h3⟩
  ·rw [if_neg he,if_neg he]
   exact ⟨rfl,hp,hk⟩
theorem aFK {G p:Nat} {w W:World} {R:List Res} {d d':Dm} (h:Has G w W (bI p d::R)) (hp:d.Perm d'):Has G w W (bI p d'::R):=by
 obtain ⟨m,d2,h1,h2,h3⟩:=iW h
 exact iV h3 (h1.trans hp) ((iU hp).1 h2)
theorem aFL {G p:Nat} {w W:World} {R:List Res} {d:Dm} (h:Has G w W (bI p d::R)):dW d:=by
 obtain ⟨m,d2,h1,h2,h3⟩:=iW h
 exact h2
theorem aA3 (w0 W:World) (H:Fh) (p:Nat) (d:Dm) (l:List OpD) (sv:Value) (R:List Res) (ho:∀o∈l,OpOk o) (r:RdH H 9 sv l.length (l.flatMap bT)) (i:In (Fz H) R) (hH:(fr w0).le H) (hT:Tabs w0) (hw:Has 0 w0 W (bI p d::R)):
  Calls Tryz.prog 173 ⟨[.pointer (some ⟨p,0,none⟩),sv]⟩ W fun e W'=>e= .returned (.int .i64 (dN d l).1)∧Has 0 w0 W' (bI p (dN d l).2::R):=by
 have hk:=aFL hw
 obtain ⟨h1,h2,h3⟩:=aFJ (List.Perm.refl d) hk l
 refine (aFE w0 W H p d l sv R ho r i hH hT hw).mono ?_
 rintro e W' ⟨rfl,h⟩
 exact ⟨by rw [h1],aFK h h2⟩
end Go.Proofs.YtgpbngfehfbndaaGreatDoor.Sw
namespace Go.Proofs.YtgpbngfehfbndaaGreatDoor
open Go.RowKit
end Go.Proofs.YtgpbngfehfbndaaGreatDoor
namespace Go.Proofs.YtgpbngfehfbndaaGreatDoor.Sw
open Go.RowKit Go.Sx
def pH (x:Option DV):List Value:=[.int .i64 (gA x),.int .i64 (fE x),.string (mG x)]
theorem aA4 (l m:List UInt8) (v u:Value) (w:World) (r:RdB w v l) (r':RdB w u m):
  Calls Tryz.prog 160 ⟨[v,u]⟩ w fun e w'=>e= .returned (.bool (l == m))∧Below w.heap.size w w':=by
 have hw:=Has.start (G:=0) (w:=w) (Nat.zero_le _)
 refine enter Tryz.func160 Tryz.ntmps160 rfl rfl fun a hs=>?_
 refine zA hs hw ?_;clear hs;intro a hs
 refine l7 (hs:=hs) (r:=r) (k:=?_);clear hs;intro a hs
 refine zA hs hw ?_;clear hs;intro a hs
 refine l7 (hs:=hs) (r:=r') (k:=?_);clear hs;intro a hs
 refine zA hs hw ?_;clear hs;intro a hs
 have e:((⟨l.toArray⟩:ByteArray).toList == (⟨m.toArray⟩:ByteArray).toList)=(l == m):=by
  rw [Go.ByteArray.toList_eq,Go.ByteArray.toList_eq]
 rw [e] at hs
 exact rt1 hs rfl rfl ⟨rfl,hw.end (by repeat (first|exact In.hd|apply In.tl))⟩
theorem aA5 {W:World} {sad:Option Addr} {scap:Nat} {l:List OpD} {i:Nat} {o:OpD} (r:Rd W 9 (.slice sad l.length scap) l.length (l.flatMap bT)) (h:l[i]? =some o):
  ∃g off,sad=some ⟨g,off,none⟩∧g<W.heap.size∧∀j u,(bT o)[j]? =some u→W.cell? ⟨g,off+i*9+j,none⟩=some u:=by
 have hi:i<l.length:=(List.getElem?_eq_some_iff.1 h).1
 obtain ⟨h1,ad,cap,e,h3,h4,h5⟩:=r
 injection e with e1 e2 e3
 subst e1
 rcases h5 with h5|⟨b,off,rfl,hlt,hc⟩
 ·omega
 ·refine ⟨b,off,rfl,hlt,fun j u hu=>?_⟩
  rw [Nat.add_assoc]
  refine hc _ _ ?_
  have e:=(congrArg (fun t=>t[j]?) (vQ l i o h)).trans hu
  simp only [List.getElem?_take] at e
  split at e
  ·rw [List.getElem?_drop] at e;exact e
  ·cases e
theorem aFM {l l':List OpD} {i:Nat} {o o':OpD} (h:l[i]? =some o) (h':l'[i]? =some o') (e:lK (l.take i) (l'.take i)=true):lK (l.take (i+1)) (l'.take (i+1))=kJ o o':=by
 unfold lK at *
 have h1:=(List.getElem?_eq_some_iff.1 h).1
 have h2:=(List.getElem?_eq_some_iff.1 h').1
 rw [List.take_add_one,List.take_add_one,h,h',List.zip_append (by simp;omega),List.all_append,e]
 simp
theorem aFN {l l':List OpD} {i:Nat} {o o':OpD} (h:l[i]? =some o) (h':l'[i]? =some o') (e:kJ o o'=false):lK l l'=false:=by
 unfold lK
 rw [List.all_eq_false]
 exact ⟨(o,o'),List.mem_of_getElem? (i:=i) (by rw [List.getElem?_zip_eq_some];exact ⟨h,h'⟩),by rw [e];simp⟩
abbrev cH (H:Fh) (sv:Value) (l:List OpD):Prop:=RdH H 9 sv l.length (l.flatMap bT)
instance arTold:Ar Tryz.prog 269 6 268:=⟨by kernel_rfl⟩
theorem aFO (l:List OpD):∀u∈l.flatMap bT,u.oneCell'=true:=by
 intro u hu
 obtain ⟨o,_,ho⟩:=List.mem_flatMap.1 hu
 simp only [bT,List.mem_cons,List.not_mem_nil,or_false] at ho
 rcases ho with rfl|rfl|rfl|rfl|rfl|rfl|rfl|rfl|rfl <;> rfl
theorem rY (w0 W:World) (H:Fh) (l:List OpD) (sv:Value) (R:List Res) (hl:l.length≤1000) (r:RdH H 9 sv l.length (l.flatMap bT)) (hw:Has 0 w0 W (Fz H::R)):
  Calls Tryz.prog 180 ⟨[sv]⟩ W fun e W'=>∃sv' H',e= .returned sv'∧H.le H'∧RdH H' 9 sv' l.length (l.flatMap bT)∧Has 0 w0 W' (Fz H'::R):=by
 obtain ⟨sad,scap,rfl⟩:=r.slice
 refine enter Tryz.func180 Tryz.ntmps180 rfl rfl fun a hs=>?_
 refine zA hs hw ?_;clear hs;intro a hs
 refine kE hs (c:=?_);clear hs;intro a hs
 cases sad with
 |none=>
  refine zA hs hw ?_;clear hs;intro a hs
  have h0:l= []:=by
   obtain ⟨_,ad,cap,e,_,_,h|⟨b,o,cs,T,z,h,_⟩⟩:=r
   ·exact List.eq_nil_of_length_eq_zero h
   ·injection e with e1 _ _
    rw [←e1] at h;cases h
  subst h0
  exact rt1 hs rfl rfl ⟨_,H,rfl,Fh.le.refl _,RdH.nil H 9 0 (by omega),hw⟩
 |some A=>
  rw [show (some A).isNone=false from rfl] at hs
  refine zG hs ?_
  refine oU hs hw (c:=?_);clear hs hw;intro a ad W hw hs
  refine zA hs hw ?_;clear hs;intro a hs
  refine lF hs (hw:=hw) (k:=0) (m:=l.length) (xs:=[]) (news:=l.flatMap bT) (hsrc:=fK (hw.rdH (In.tl In.hd) r) (aFO l)) (h63:=by omega) (hb:=by omega) (c:=?_)
  clear hs hw;intro a ad2 cap2 W hs hw
  refine zA hs hw ?_;clear hs;intro a hs
  rw [List.nil_append,Nat.zero_add] at hw
  rw [Nat.zero_add] at hs
  obtain ⟨H',h1,h2,h3⟩:=hw.freeze_own
  exact rt1 hs rfl rfl ⟨_,H',rfl,h1,h3,h2⟩
structure cR where
 c:Int
 q:Int
 l:List OpD
structure cD where
 place:Int
 b:cR
 err:Int
def aL (b:cR) (sv:Value):List Value:=[.int .i64 b.c,.int .i64 b.q,sv]
def aJ (r:cD) (sv:Value):List Value:=[.int .i64 r.place,.int .i64 r.b.c,.int .i64 r.b.q,sv,.int .i64 r.err]
def BatIn (H:Fh) (b:cR) (cs:List Value):Prop:=∃sv,cs=aL b sv∧cH H sv b.l
def RowIn (H:Fh) (r:cD) (cs:List Value):Prop:=∃sv,cs=aJ r sv∧cH H sv r.b.l
def TolIn (H:Fh) (x:Int×cD) (cs:List Value):Prop:=∃sv,cs= .int .i64 x.1::aJ x.2 sv∧cH H sv x.2.b.l
structure gW (b:cR):Prop where
 c:i64 b.c
 q:i64 b.q
 ops:∀o∈b.l,OpOk o
def dP (b:cR):Bool:=dM b.c b.q b.l
def zeroRow:cD:=⟨0,⟨0,0,[]⟩,0⟩
abbrev zrc:List Value:=[.int .i64 0,.int .i64 0,.int .i64 0,.slice none 0 0,.int .i64 0]
theorem BatIn.len {H:Fh}:∀(b:cR) (c:List Value),BatIn H b c→c.length=3:=by rintro b c ⟨sv,rfl,_⟩;rfl
theorem RowIn.len {H:Fh}:∀(b:cD) (c:List Value),RowIn H b c→c.length=5:=by rintro b c ⟨sv,rfl,_⟩;rfl
theorem TolIn.len {H:Fh}:∀(b:Int×cD) (c:List Value),TolIn H b c→c.length=6:=by rintro b c ⟨sv,rfl,_⟩;rfl
theorem BatIn.le {H H':Fh} (h:H.le H'):∀(b:cR) (c:List Value),BatIn H b c→BatIn H' b c:=by rintro b c ⟨sv,rfl,h1⟩;exact ⟨sv,rfl,h1.le h⟩
theorem RowIn.le {H H':Fh} (h:H.le H'):∀(b:cD) (c:List Value),RowIn H b c→RowIn H' b c:=by rintro b c ⟨sv,rfl,h1⟩;exact ⟨sv,rfl,h1.le h⟩
theorem TolIn.le {H H':Fh} (h:H.le H'):∀(b:Int×cD) (c:List Value),TolIn H b c→TolIn H' b c:=by rintro b c ⟨sv,rfl,h1⟩;exact ⟨sv,rfl,h1.le h⟩
theorem RowIn.ones {H:Fh}:∀(b:cD) (c:List Value),RowIn H b c→∀v∈c,v.oneCell'=true:=by
 rintro b c ⟨sv,rfl,h⟩ v hv
 obtain ⟨ad,cap,rfl⟩:=h.slice
 simp only [aJ,List.mem_cons,List.not_mem_nil,or_false] at hv
 rcases hv with rfl|rfl|rfl|rfl|rfl <;> rfl
theorem TolIn.ones {H:Fh}:∀(b:Int×cD) (c:List Value),TolIn H b c→∀v∈c,v.oneCell'=true:=by
 rintro b c ⟨sv,rfl,h⟩ v hv
 rcases List.mem_cons.1 hv with rfl|hv
 ·rfl
 ·exact RowIn.ones b.2 _ ⟨sv,rfl,h⟩ v hv
theorem jW (H:Fh):cH H (.slice none 0 0) []:=RdH.nil H 9 0 (by omega)
structure dV where
 place:Int
 d:Dm
 told:List (Int×cD)
def dB (pl:Int) (pd:Nat) (xs:List Value):List Value:= .int .i64 pl:: .pointer (some ⟨pd,0,none⟩)::xs
def iY (H:Fh) (told:List (Int×cD)) (xs:List Value):Prop:=told.length=6∧Ch (TolIn H) told xs
def aS (H:Fh) (p:Nat) (f:dV):Res:=Ex fun x:Nat×List Value=>aA p (dB f.place x.1 x.2) 271::bI x.1 f.d::bN (iY H f.told x.2):: []
section
variable {G p pd:Nat} {w W:World} {R:List Res} {f:dV} {H H':Fh} {xs:List Value}
theorem lL (h:Has G w W (aA p (dB f.place pd xs) 271::bI pd f.d::R)) (ht:iY H f.told xs):Has G w W (aS H p f::R):=
 Has.shut (pd,xs) ((h.fact ht).perm ((List.Perm.swap _ _ _).trans (List.Perm.cons _ (List.Perm.swap _ _ _))))
theorem nG (h:Has G w W (aS H p f::R)):∃pd xs,iY H f.told xs∧Has G w W (aA p (dB f.place pd xs) 271::bI pd f.d::R):=by
 obtain ⟨⟨pd,xs⟩,h⟩:=Has.open h
 have h:Has G w W (aA p (dB f.place pd xs) 271::bI pd f.d::bN (iY H f.told xs)::R):=h
 exact ⟨pd,xs,h.told (In.tl (In.tl In.hd)),h.sub (List.Sublist.cons_cons _ (List.Sublist.cons_cons _ (List.Sublist.cons _ (List.Sublist.refl _))))⟩
theorem jX (h:Has G w W (aS H p f::R)) (hl:H.le H'):Has G w W (aS H' p f::R):=by
 obtain ⟨pd,xs,⟨h1,h2⟩,h3⟩:=nG h
 exact lL h3 ⟨h1,h2.mono (TolIn.le hl)⟩
end
theorem aFP {H:Fh} {told:List (Int×cD)} {xs:List Value} (h:iY H told xs):xs.length=36:=by
 have:=h.2.length TolIn.len
 rw [h.1] at this
 omega
theorem aA6 {H:Fh} {told:List (Int×cD)} {xs:List Value} (h:iY H told xs) {c:Nat} {x:Int×cD} (hx:told[c]? =some x):∃sv,cH H sv x.2.b.l∧cut xs (c*6) 6= .int .i64 x.1::aJ x.2 sv:=by
 obtain ⟨cs,⟨sv,rfl,h1⟩,h2,h3⟩:=h.2.get TolIn.len hx
 exact ⟨sv,h1,h3⟩
theorem aFQ {H:Fh} {told:List (Int×cD)} {xs:List Value} (h:iY H told xs) {c:Nat} (hc:c<6) {x:Int×cD} {sv:Value} (hx:cH H sv x.2.b.l):iY H (told.set c x) (ov xs (c*6) (.int .i64 x.1::aJ x.2 sv)):=
 ⟨by rw [List.length_set];exact h.1,h.2.set TolIn.len (by rw [h.1];exact hc) ⟨sv,rfl,hx⟩⟩
theorem aA7 {H:Fh} {told:List (Int×cD)} {xs:List Value} (pl:Int) (pd:Nat) (h:iY H told xs):(dB pl pd xs).length=38:=by
 have:=aFP h
 simp [dB,this]
theorem aFR {H:Fh} {told:List (Int×cD)} {xs:List Value} (pl:Int) (pd:Nat) (h:iY H told xs):(dB pl pd xs).all (·.oneCell')=true:=by
 rw [List.all_eq_true]
 intro v hv
 simp only [dB,List.mem_cons] at hv
 rcases hv with rfl|rfl|hv
 ·rfl
 ·rfl
 ·exact h.2.ones TolIn.ones v hv
abbrev iC:List Value:=[.int .i64 0,.int .i64 0,.int .i64 0,.int .i64 0,.slice none 0 0,.int .i64 0]
theorem aFS (H:Fh):iY H (List.replicate 6 (0,zeroRow)) (iC ++ (iC ++ (iC ++ (iC ++ (iC ++ (iC ++ [])))))):=by
 have z:TolIn H (0,zeroRow) iC:=⟨_,rfl,jW H⟩
 exact ⟨rfl,_,_,rfl,z,_,_,rfl,z,_,_,rfl,z,_,_,rfl,z,_,_,rfl,z,_,_,rfl,z,rfl⟩
def fT:dV:=⟨0,[],List.replicate 6 (0,zeroRow)⟩
theorem aFT (cs:List Value) (n:Nat) (h:cs.length=n):cut cs 0 n=cs:=by
 rw [fX,List.drop_zero,List.take_of_length_le (by omega)]
theorem aFU (cs vs:List Value) (h:vs.length=cs.length):ov cs 0 vs=vs:=by
 rw [kD _ _ _ (by omega),List.take_zero,List.nil_append,Nat.zero_add,h,List.drop_length,List.append_nil]
theorem aA8 (w0 W:World) (H:Fh) (R:List Res) (hw:Has 0 w0 W R):
  Calls Tryz.prog 155 ⟨[]⟩ W fun e W'=>∃p,e= .returned (.pointer (some ⟨p,0,none⟩))∧Has 0 w0 W' (aS H p fT::R):=by
 refine enter Tryz.func155 Tryz.ntmps155 rfl rfl fun a hs=>?_
 refine zA hs hw ?_;clear hs;intro a hs
 refine aF hs (hc:=vY w0 _ _ hw) (k:=?_);rintro e0 W1 ⟨c,rfl,hw1⟩;refine ⟨_,rfl,?_⟩;clear hs hw;intro a hs;have hw:=hw1;clear hw1
 repeat (first|(refine sxv hs hw ?_;clear hs;intro a hs)|refine sxc hs ?_|(refine sxa hs hw ?_;clear hs hw;intro a b W hw hs)|(refine sxs hs hw ?_;clear hs hw;intro W hs hw))
 refine rt1 hs rfl rfl ⟨_,rfl,?_⟩
 exact lL (H:=H) (f:=fT) (pd:=c) (xs:=iC ++ (iC ++ (iC ++ (iC ++ (iC ++ (iC ++ [])))))) (by with_unfolding_all exact hw) (aFS H)
def cQ (f:dV) (c:Int):Int:=if 1≤c∧c≤5 then ((f.told[c.toNat]?).map (·.1)).getD 0 else 0
theorem aFV (c:Int) (W:World):Calls Tryz.prog 270 ⟨[.int .i64 c]⟩ W fun e W'=>e= .returned (.bool (decide (1≤c∧c≤5)))∧Below W.heap.size W W':=by
 have hw:=Has.start (G:=0) (w:=W) (Nat.zero_le _)
 refine enter Tryz.func270 Tryz.ntmps270 rfl rfl fun a hs=>?_
 refine zA hs hw ?_;clear hs;intro a hs
 cases h:decide (c≥1) with
 |true=>
  rw [h] at hs
  refine zA hs hw ?_;clear hs;intro a hs
  have:decide (c≤5)=decide (1≤c∧c≤5):=by
   have:=of_decide_eq_true h
   by_cases h5:c≤5
   ·rw [decide_eq_true h5,decide_eq_true ⟨this,h5⟩]
   ·rw [decide_eq_false h5,decide_eq_false fun h=>h5 h.2]
  exact rt1 hs rfl rfl ⟨by rw [←this];rfl,hw.end (by repeat (first|exact In.hd|apply In.tl))⟩
 |false=>
  rw [h] at hs
  refine zA hs hw ?_;clear hs;intro a hs
  have:decide (1≤c∧c≤5)=false:=decide_eq_false fun h'=>(of_decide_eq_false h) h'.1
  exact rt1 hs rfl rfl ⟨by rw [this];rfl,hw.end (by repeat (first|exact In.hd|apply In.tl))⟩
theorem rZ (w0 W:World) (H:Fh) (p:Nat) (f:dV) (c:Int) (R:List Res) (hw:Has 0 w0 W (aS H p f::R)):
  Calls Tryz.prog 234 ⟨[.pointer (some ⟨p,0,none⟩),.int .i64 c]⟩ W fun e W'=>e= .returned (.int .i64 (cQ f c))∧Has 0 w0 W' (aS H p f::R):=by
 refine enter Tryz.func234 Tryz.ntmps234 rfl rfl fun a hs=>?_
 refine zC hs hw ?_;clear hs;intro a hs
 refine aF hs (hc:=aFV c _) (k:=?_);rintro e0 W1 ⟨rfl,hb⟩;refine ⟨_,rfl,?_⟩;clear hs;intro a hs;replace hw:=hw.below hb;clear hb
 refine zC hs hw ?_;clear hs;intro a hs
 cases h:decide (1≤c∧c≤5) with
 |false=>
  rw [h] at hs
  refine zC hs hw ?_;clear hs;intro a hs
  have hX:cQ f c=0:=by unfold cQ;rw [if_neg (of_decide_eq_false h)]
  exact rt1 hs rfl rfl ⟨by rw [hX],hw⟩
 |true=>
  rw [h] at hs
  have h15:=of_decide_eq_true h
  obtain ⟨pd,xs,ht,hw⟩:=nG hw
  refine zC hs hw ?_;clear hs;intro a hs
  refine lG hs (h0:=by omega) (h1:=by omega) (c:=?_);clear hs;intro a hs
  refine zC hs hw ?_;clear hs;intro a hs
  obtain ⟨x,hx⟩:∃x,f.told[c.toNat]? =some x:=⟨f.told[c.toNat]'(by rw [ht.1];omega),List.getElem?_eq_getElem _⟩
  have hX:cQ f c=x.1:=by
   unfold cQ
   rw [if_pos h15,hx]
   rfl
  refine fY hs (hw:=hw) (hi:=In.hd) (v:= .int .i64 x.1) (hv:=?_) (k:=?_)
  ·show (dB f.place pd xs)[0+2+c.toNat*6+0]? =_
   rw [show 0+2+c.toNat*6+0=c.toNat*6+1+1 by omega]
   obtain ⟨sv,_,h6⟩:=aA6 ht hx
   have:=congrArg (fun t=>t[0]?) h6
   simp only [fX,List.getElem?_take,List.getElem?_drop] at this
   simpa [dB] using this
  ·clear hs;intro a hs
   refine zC hs hw ?_;clear hs;intro a hs
   exact rt1 hs rfl rfl ⟨by rw [hX],lL hw ht⟩
theorem v7 (w0 W:World) (H:Fh) (p:Nat) (f:dV) (R:List Res) (hw:Has 0 w0 W (aS H p f::R)):
  Calls Tryz.prog 183 ⟨[.pointer (some ⟨p,0,none⟩)]⟩ W fun e W'=>∃q,e= .returned (.pointer (some ⟨q,0,none⟩))∧Has 0 w0 W' (aS H q f::aS H p f::R):=by
 refine enter Tryz.func183 Tryz.ntmps183 rfl rfl fun a hs=>?_
 obtain ⟨pd,xs,ht,hw⟩:=nG hw
 have hl:=aA7 f.place pd ht
 refine zC hs hw ?_;clear hs;intro a hs
 refine uI hs (hw:=hw) (hi:=In.hd) (hl:=by rw [hl];rfl) (k:=?_);clear hs;intro a hs
 replace hs:Slots a 15 [(8,.agg ⟨dB f.place pd xs⟩),(0,.pointer (some ⟨p,0,none⟩))]:=hs.of ⟨congrArg (fun x=>some (Value.agg ⟨x⟩)) (aFT _ 38 hl),rfl,trivial⟩
 repeat (first|(refine sxv hs hw ?_;clear hs;intro a hs)|refine sxc hs ?_|(refine sxa hs hw ?_;clear hs hw;intro a b W hw hs)|(refine sxs hs hw ?_;clear hs hw;intro W hs hw)|((with_reducible first|refine eQ hs (k:=?_)|refine eR hs (k:=?_));clear hs;intro a hs))
 obtain ⟨q,q1⟩:=nm1 hw;subst q1
 refine d6 hs (vs:=dB f.place pd xs) (hw:=hw) (hz:=by rw [hl];rfl) (h1:=aFR _ _ ht) (hl:=by rw [hl];rfl) (k:=?_);clear hs hw;intro W hs hw
 rw [aFU _ _ (by rw [hl];rfl)] at hw
 refine zC hs hw ?_;clear hs;intro a hs
 have hw:Has 0 w0 W (bI pd f.d::aA q (dB f.place pd xs) 271::aA p (dB f.place pd xs) 271::R):=hw.pm
 refine aF hs (hc:=pC w0 _ pd f.d _ hw) (k:=?_);rintro e0 W1 ⟨c,rfl,hw1⟩;refine ⟨_,rfl,?_⟩;clear hs hw;intro a hs;have hw:=hw1;clear hw1
 have hw:Has 0 w0 _ (aA q (dB f.place pd xs) 271::bI c f.d::aA p (dB f.place pd xs) 271::bI pd f.d::R):=hw.pm
 refine zD hs hw ?_;clear hs hw;intro a W hs hw
 rw [oQ] at hw
 have hw:Has 0 w0 _ (aA q (dB f.place c xs) 271::bI c f.d::aA p (dB f.place pd xs) 271::bI pd f.d::R):=hw
 have hw:=lL hw ht
 have hw:Has 0 w0 _ (aA p (dB f.place pd xs) 271::bI pd f.d::aS H q f::R):=hw.pm
 have hw:=(lL hw ht).swap2
 exact rt1 hs rfl rfl ⟨q,rfl,hw⟩
theorem v8 (w0 W:World) (H:Fh) (r:cD) (sv:Value) (R:List Res) (hl:r.b.l.length≤1000) (hr:cH H sv r.b.l) (hw:Has 0 w0 W (Fz H::R)):
  Calls Tryz.prog 235 ⟨[.agg ⟨aJ r sv⟩]⟩ W fun e W'=>∃sv' H',e= .returned (.agg ⟨aJ r sv'⟩)∧H.le H'∧cH H' sv' r.b.l∧Has 0 w0 W' (Fz H'::R):=by
 obtain ⟨sad,scap,rfl⟩:=hr.slice
 refine enter Tryz.func235 Tryz.ntmps235 rfl rfl fun a hs=>?_
 repeat (first|(refine sxv hs hw ?_;clear hs;intro a hs)|refine sxc hs ?_|(refine sxa hs hw ?_;clear hs hw;intro a b W hw hs)|(refine sxs hs hw ?_;clear hs hw;intro W hs hw))
 obtain ⟨b2,q2⟩:=nm1 hw;subst q2
 obtain ⟨b1,q1⟩:=nm2 hw;subst q1
 have hw:Has 0 w0 _ (Fz H::aA b2 [.int .i64 0,.int .i64 0,.int .i64 0,.slice none 0 0,.int .i64 0] 68::aA b1 (aJ r (.slice sad r.b.l.length scap)) 68::R):=hw.pm
 refine aF hs (hc:=rY w0 _ H r.b.l _ _ hl hr hw) (k:=?_);rintro e0 W1 ⟨sv',H',rfl,h1,h2,hw1⟩;refine ⟨_,rfl,?_⟩;clear hs hw;intro a hs;have hw:=hw1;clear hw1
 obtain ⟨tad,tcap,rfl⟩:=h2.slice
 refine zB hs hw ?_;clear hs hw;intro a W hs hw
 refine rc1 hs rfl rfl hw (In.tl In.hd) rfl ?_
 exact ⟨_,H',rfl,h1,h2,hw.drop2.drop2⟩
theorem aA9 (w0 W:World) (H:Fh) (r:cD) (sv:Value) (R:List Res) (hl:r.b.l.length≤1000) (hr:cH H sv r.b.l) (hw:Has 0 w0 W (Fz H::R)):
  Calls Tryz.prog 103 ⟨[.agg ⟨aJ r sv⟩]⟩ W fun e W'=>∃sv' H',e= .returned (.agg ⟨aJ r sv'⟩)∧H.le H'∧cH H' sv' r.b.l∧Has 0 w0 W' (Fz H'::R):=by
 obtain ⟨sad,scap,rfl⟩:=hr.slice
 refine enter Tryz.func103 Tryz.ntmps103 rfl rfl fun a hs=>?_
 repeat (first|(refine sxv hs hw ?_;clear hs;intro a hs)|refine sxc hs ?_|(refine sxa hs hw ?_;clear hs hw;intro a b W hw hs)|(refine sxs hs hw ?_;clear hs hw;intro W hs hw))
 obtain ⟨b2,q2⟩:=nm1 hw;subst q2
 obtain ⟨b1,q1⟩:=nm2 hw;subst q1
 have hw:Has 0 w0 _ (Fz H::aA b2 [.int .i64 0,.int .i64 0,.int .i64 0,.slice none 0 0,.int .i64 0] 68::aA b1 (aJ r (.slice sad r.b.l.length scap)) 68::R):=hw.pm
 refine aF hs (hc:=rY w0 _ H r.b.l _ _ hl hr hw) (k:=?_);rintro e0 W1 ⟨sv',H',rfl,h1,h2,hw1⟩;refine ⟨_,rfl,?_⟩;clear hs hw;intro a hs;have hw:=hw1;clear hw1
 obtain ⟨tad,tcap,rfl⟩:=h2.slice
 refine zB hs hw ?_;clear hs hw;intro a W hs hw
 refine rc1 hs rfl rfl hw (In.tl In.hd) rfl ?_
 exact ⟨_,H',rfl,h1,h2,hw.drop2.drop2⟩
end Go.Proofs.YtgpbngfehfbndaaGreatDoor.Sw
