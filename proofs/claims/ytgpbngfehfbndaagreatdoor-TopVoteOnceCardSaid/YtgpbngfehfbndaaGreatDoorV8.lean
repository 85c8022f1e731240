import Derived.Test.YtgpbngfehfbndaaGreatDoorV2
import Derived.Test.YtgpbngfehfbndaaGreatDoorV6
import Derived.Test.YtgpbngfehfbndaaGreatDoorChecked
import Derived.WalkSpells
import Derived.Lib.Hide
import Derived.Test.YtgpbngfehfbndaaGreatDoorCards
import Derived.Test.YtgpbngfehfbndaaGreatDoorTie
import Derived.ProofKit
import Derived.OpenShut
import Derived.ShutString
import Derived.ChangeOld
import Derived.Deep.DeepHandedRow
import Derived.PinnedBridge
import Derived.Lib.LaidU8
import Derived.MakeChecks
import Derived.Deep.QuietTactic
import Derived.BigQuiet
set_option maxHeartbeats 16000000
set_option linter.all false
namespace Go.Proofs.YtgpbngfehfbndaaGreatDoor
open Go.RowKit
theorem oR {a b:Bool} (h:a=b):Ending.returned (.bool a)= .returned (.bool b):=by rw [h]
theorem aDD {g h:Nat} {w w':World} {B:Nat} (hT:Lib.Utf8Tabs g h w) (hb:Below B w w') (hg:g<B) (hh:h<B):Lib.Utf8Tabs g h w':=
 ⟨fun c hc=>(hb.cell (p:=⟨g,c,none⟩) hg).trans (hT.1 c hc),fun i hi=>⟨(hb.cell (p:=⟨h,2*i,none⟩) hh).trans (hT.2 i hi).1,(hb.cell (p:=⟨h,2*i+1,none⟩) hh).trans (hT.2 i hi).2⟩⟩
theorem yM {g h:Nat} {w:World} (hT:Lib.Utf8Tabs g h w):g<w.heap.size∧h<w.heap.size:=
 ⟨World.block_lt_of_cell? w _ (hT.1 0 (by omega)),World.block_lt_of_cell? w _ (hT.2 0 (by omega)).1⟩
theorem aDE {g h:Nat} {w w':World} (hT:Lib.Utf8Tabs g h w) (hb:Below w.heap.size w w'):Lib.Utf8Tabs g h w':=
 aDD hT hb (yM hT).1 (yM hT).2
def Tabs (w:World):Prop:=Lib.Utf8Tabs 0 1 w
theorem Tabs.keep {w w':World} (h:Tabs w) (hb:Below w.heap.size w w'):Tabs w':=aDE h hb
theorem uM (s:ByteArray) (w:World) (hs:s.size≤9223372036854775807) (hT:Tabs w):
  Calls Tryz.prog 304 #[.string s] w fun e w'=>e= .returned (.bool (Lib.validD s.data.toList))∧Below w.heap.size w w':=by
 go_enter Tryz.func304,Tryz.ntmps304
 go_wp2_with (go_at_call 317;refine (Tryz.utf8_ValidString _ _ hs hT).mono ?_;rintro e w' ⟨rfl,hb⟩)
 go_ret
 exact ⟨rfl,hb⟩
end Go.Proofs.YtgpbngfehfbndaaGreatDoor
set_option maxRecDepth 10000
namespace Go.Proofs.YtgpbngfehfbndaaGreatDoor
open Go.ChangeShapes Go.WideShapes Go.ChangeAt Go.RowKit Go.Lib
open Go.Proofs.Tryz (prog)
theorem own:ownKnob prog.godebug=none:=by kernel_rfl
theorem gFirst:prog.globalNamed "unicode/utf8.first" =some 0:=by kernel_rfl
theorem gAccept:prog.globalNamed "unicode/utf8.acceptRanges" =some 1:=by kernel_rfl
theorem tyFirst:(prog.globals[0]?).map (·.type)=some 391:=by kernel_rfl
theorem tyAccept:(prog.globals[1]?).map (·.type)=some 394:=by kernel_rfl
theorem uN:prog.cellsOf 5=1:=by kernel_rfl
theorem aDF:prog.cellsOf 391=256:=by kernel_rfl
theorem yN:prog.cellsOf 393=2:=by kernel_rfl
theorem aDG:Rows.laid_unicode_utf8_first=firstData:=Pinned.utf8First_eq
theorem aDH:(Rows.laid_unicode_utf8_acceptRanges:DataW Unit)=acceptData:=by kernel_rfl
theorem aDI {w:World} (h3:VarReads prog w "unicode/utf8.first" firstData) (h4:VarReads prog w "unicode/utf8.acceptRanges" acceptData):Tabs w:=by
 refine ⟨fun c hc=>?_,fun i hi=>?_⟩
 ·obtain ⟨g,t,cs,fuel,p,hg,hty,hvar,hd⟩:=h3;obtain rfl:=Option.some.inj (gFirst.symm.trans hg);obtain rfl:=Option.some.inj (tyFirst.symm.trans hty);have hcs:=cells_of_tab Tryz.underlying391 Tryz.underlying5 uN aDF hd;have:=World.var?_cell hg hvar c;rw [this,←Array.getElem?_toList,hcs];simp [firstTab,hc]
 ·obtain ⟨g,t,cs,fuel,p,hg,hty,hvar,hd⟩:=h4;obtain rfl:=Option.some.inj (gAccept.symm.trans hg);obtain rfl:=Option.some.inj (tyAccept.symm.trans hty);obtain ⟨fuel',d,q,hdi,he⟩:=array_elem Tryz.underlying394 hd i hi;simp only [List.getElem?_map,List.getElem?_range hi,Option.map_some,Option.some.injEq] at hdi;subst hdi;rw [yN] at he
  have hcs:=ints_of_struct Tryz.underlying393 (fun j f hj=>by
   match j,hj with
   |0,hj=>simp at hj;subst hj;exact ⟨Tryz.underlying5,rfl,uN⟩
   |1,hj=>simp at hj;subst hj;exact ⟨Tryz.underlying5,rfl,uN⟩
   |j+2,hj=>simp at hj) (by rw [yN];rfl) he
  have e0:=congrArg (·[0]?) hcs;have e1:=congrArg (·[1]?) hcs;simp only [List.getElem?_take,List.getElem?_drop] at e0 e1;constructor
  ·rw [World.var?_cell hg hvar (2*i),←Array.getElem?_toList];simpa [Nat.mul_comm] using e0
  ·rw [World.var?_cell hg hvar (2*i+1),←Array.getElem?_toList];simpa [Nat.mul_comm] using e1
theorem tabs_of_laid {l:List (String×DataW Unit)} {w:World} (hp:(l.all fun x=>x.2.handleName?.isNone)=true) (h1:("unicode/utf8.first",Rows.laid_unicode_utf8_first)∈l) (h2:("unicode/utf8.acceptRanges",(Rows.laid_unicode_utf8_acceptRanges:DataW Unit))∈l) (h:laidMetH prog l w):Tabs w:=by
 rw [MakeChecks.laidMetH_plain _ _ _ hp] at h;have r1:=Go.Lib.laidMet.reads h h1;have r2:=Go.Lib.laidMet.reads h h2;rw [aDG] at r1;rw [aDH] at r2;exact aDI r1 r2
def firstCells:Array Value:=(firstTab.map fun z=>Value.int .u8 z).toArray
def aDJ:Array Value:=((List.range 16).flatMap fun i=>[Value.int .u8 (accLo i),Value.int .u8 (accHi i)]).toArray
def aDK:Obj→Obj
 | .cells _ t frozen=> .cells firstCells t frozen
 |o=>o
def aDL:Obj→Obj
 | .cells _ t frozen=> .cells aDJ t frozen
 |o=>o
noncomputable def laidWorld (os:Os):World:=
 {World.holding prog os ⟨#[],#[],[]⟩ with heap:=((World.holding prog os ⟨#[],#[],[]⟩).heap.modify 0 aDK).modify 1 aDL}
theorem laid_met (os:Os) (args:Array Value):laidMet prog Rows.topVoteOnceRow.laid ((laidWorld os).forCall (fun _ _=>0) ⟨#[],args,[]⟩).memory:=
 laidMet_of_run' 8 (by kernel_rfl) (by kernel_rfl)
theorem laid_vars (os:Os) (args:Array Value):((laidWorld os).forCall (fun _ _=>0) ⟨#[],args,[]⟩).variablesB prog=true:=by kernel_rfl
theorem laid_rest (os:Os) (args:Array Value):(((laidWorld os).forCall (fun _ _=>0) ⟨#[],args,[]⟩).heap.toList.drop prog.globals.size).take ((begin prog (fun _ _=>0) default).world.heap.size - prog.globals.size) =
   (begin prog (fun _ _=>0) default).world.heap.toList.drop prog.globals.size:=by kernel_rfl
end Go.Proofs.YtgpbngfehfbndaaGreatDoor
namespace Go.Proofs.YtgpbngfehfbndaaGreatDoor.Sw
open Go.RowKit Go.Sx
theorem u8w (x:Nat) (h:x<128):IntKind.u8.wrap (x:Int)=((x.toUInt8).toNat:Int):=by
 rw [IntKind.wrap_u8,Ph.u8n x (by omega)];omega
theorem u8o (x:Nat):bits .or .u8 (IntKind.u8.wrap (x:Int)) 128=(((x % 128+128).toUInt8).toNat:Int):=by
 have e:IntKind.u8.wrap (x:Int)=((x % 256:Nat):Int):=by rw [IntKind.wrap_u8];omega
 rw [e,Ph.or128_at _ (by omega),Ph.u8n _ (by omega)];omega
structure aDr where
 v:Value
 acc:List UInt8
 f:Nat
 x:Nat
theorem aDs (x:Nat):(x:Int).fdiv (2 ^ 7)=((x / 128:Nat):Int):=by
 rw [Int.fdiv_eq_ediv_of_nonneg _ (by decide)];omega
theorem eS (w0 W:World) (v:Value) (l:List UInt8) (n:Int) (R:List Res) (h0: -9223372036854775808≤n) (h1:n≤9223372036854775807) (hl:l.length≤1000000000) (hw:Has 0 w0 W (OwnB 5 v l::R)):
  Calls Tryz.prog 115 ⟨[v,.int .i64 n]⟩ W fun e W'=>∃ad cap,e= .returned (.slice ad (l ++ Ph.putI n).length cap)∧Has 0 w0 W' (OwnB 5 (.slice ad (l ++ Ph.putI n).length cap) (l ++ Ph.putI n)::R):=by
 refine en Tryz.func115 Tryz.ntmps115 fun a hs=>?_;have hz:=(Ph.zig_small h0 h1).1;refine zA hs hw ?_;clear hs;intro a hs;refine fD (M:=fun a W=>Slots a 28 [(0,v),(5,.int .u64 (Ph.zig n))]∧Has 0 w0 W (OwnB 5 v l::R)) ?_ ?_
 ·refine cI hs (kt:=fun hc=>?_) (kf:=fun hc=>?_)
  ·have hn:n<0:=by simpa using hc
   refine zA hs hw ?_;clear hs;intro a hs;exact ⟨hs.of ⟨rfl,bU (Ph.zig_neg n h0 hn),trivial⟩,hw⟩
  ·have hn:0≤n:=by simpa using hc
   refine zG hs ?_;have e:IntKind.u64.wrap (IntKind.u64.wrap n*2 ^ min 1 IntKind.u64.bits)=(Ph.zig n:Int):=by
    rw [←Ph.zig_pos n hn,IntKind.wrap_u64,IntKind.wrap_u64];show (n % 18446744073709551616*2 % 18446744073709551616:Int)=_;omega
   exact ⟨hs.of ⟨rfl,bU e,trivial⟩,hw⟩
 clear hs hw;rintro a W ⟨hs,hw⟩;refine zG hs ?_;refine bX (σ:=aDr) (fun s=>[(0,s.v),(5,.int .u64 s.x)]) (fun s=>OwnB 5 s.v s.acc::R) (fun s=>s.x<128 ^ s.f∧1≤s.f∧s.f≤10∧s.acc.length+s.f≤l.length+10∧s.acc ++ Ph.putN s.f s.x=l ++ Ph.putI n) (fun s=>s.x) ⟨v,l,10,Ph.zig n⟩ ⟨hz,Nat.le_add_left 1 9,Nat.le_refl 10,by simp,rfl⟩ hs ⟨rfl,rfl,trivial⟩ hw ?_;clear hs hw;rintro ⟨v,acc,f,x⟩ a W ⟨hx,hf1,hf2,hal,he⟩ hs hw;simp only at hx hf1 hf2 hal he hs hw;refine zA hs hw ?_;clear hs;intro a hs;refine cI hs (kt:=fun hc=>?_) (kf:=fun hc=>?_)
 ·have hx':¬x<128:=by simp at hc;omega
  obtain ⟨g,rfl,hg1,hxg,hpn⟩:=Ph.putN_split f x hx' hx
  repeat (first|(refine sxv hs hw ?_;clear hs;intro a hs)|refine sxc hs ?_|(refine sxa hs hw ?_;clear hs hw;intro a b W hw hs)|(refine sxs hs hw ?_;clear hs hw;intro W hs hw))
  refine rM hs hw (k:=acc.length) (h63:=by omega) (hb:=by omega) (c:=?_);clear hs hw;intro a ad cap W hs hw;refine zA hs hw ?_;clear hs;intro a hs;have hw':=hw.d1;rw [uY (l:=acc) (m:=[(x % 128+128).toUInt8]) (by simp) (by rw [uX];exact congrArg (fun u=>bys acc ++ [Value.int .u8 u]) (u8o x))] at hw';refine bS ⟨_,acc ++ [(x % 128+128).toUInt8],g,x / 128⟩ hs hw' ⟨hxg,hg1,by show g≤10;omega,by simp;omega,?_⟩ (by show x / 128<x;omega) ⟨rfl,bU (aDs x),trivial⟩;rw [←he,hpn];simp
 ·have hx':x<128:=by simp at hc;omega
  obtain ⟨g,rfl⟩:∃g,f=g+1:=⟨f - 1,by omega⟩
  repeat (first|(refine sxv hs hw ?_;clear hs;intro a hs)|refine sxc hs ?_|(refine sxa hs hw ?_;clear hs hw;intro a b W hw hs)|(refine sxs hs hw ?_;clear hs hw;intro W hs hw))
  refine rM hs hw (k:=acc.length) (h63:=by omega) (hb:=by omega) (c:=?_);clear hs hw;intro a ad cap W hs hw;refine zA hs hw ?_;clear hs;intro a hs;have hw':=hw.d1;have e1:acc ++ [x.toUInt8]=l ++ Ph.putI n:=by rw [←he,Ph.putN_last g x hx']
  have e2:(l ++ Ph.putI n).length=acc.length+1:=by rw [←e1];simp
  refine rt1 hs rfl rfl ⟨ad,cap,by rw [e2],?_⟩;rw [uY (l:=acc) (m:=[x.toUInt8]) (by simp) (by rw [uX];exact congrArg (fun u=>bys acc ++ [Value.int .u8 u]) (u8w x hx'))] at hw';rw [e2,←e1];exact hw'
theorem aDt (s:ByteArray):Ph.putI (s.size:Int) ++ s.data.toList=Ph.putT s.data.toList:=by
 unfold Ph.putT;rw [show (s.data.toList.length:Int)=(s.size:Int) from by rw [Array.length_toList];rfl]
theorem aDu {P:Program} {T:TypeId} [t:StrTy P T] (s:ByteArray) (W:World):Src P 1 T (.string s) s.data.toList.length (bys s.data.toList) W:=by
 have:=aDg (P:=P) (S:=T) (W:=W) s;rwa [show s.size=s.data.toList.length from by rw [Array.length_toList];rfl] at this
theorem o4 (w0 W:World) (v:Value) (l:List UInt8) (s:ByteArray) (R:List Res) (hs0:s.size≤1000000000) (hl:l.length≤1000000000) (hw:Has 0 w0 W (OwnB 5 v l::R)):
  Calls Tryz.prog 116 ⟨[v,.string s]⟩ W fun e W'=>∃ad cap,e= .returned (.slice ad (l ++ Ph.putT s.data.toList).length cap)∧Has 0 w0 W' (OwnB 5 (.slice ad (l ++ Ph.putT s.data.toList).length cap) (l ++ Ph.putT s.data.toList)::R):=by
 have e:=aDt s;have hd:s.data.toList.length=s.size:=by rw [Array.length_toList];rfl
 have hp:=Ph.putI_length_le (s.size:Int);refine en Tryz.func116 Tryz.ntmps116 fun a hs=>?_;refine zA hs hw ?_;clear hs;intro a hs;refine aH hs (hc:=eS w0 W v l s.size R (by omega) (by omega) hl hw) (k:=?_);rintro e0 W1 ⟨ad,cap,rfl,hw1⟩;refine ⟨_,rfl,?_⟩;clear hs hw;intro a hs;have hw:=hw1;clear hw1;refine zA hs hw ?_;clear hs;intro a hs;refine gQ hs hw (l:=l ++ Ph.putI (s.size:Int)) (m:=s.data.toList) (hr:=aDu s W1) (hb:=by rw [List.length_append];omega) (c:=?_);clear hs hw;intro a ad cap W hs hw;refine zA hs hw ?_;clear hs;intro a hs;rw [List.append_assoc,e] at hs hw;exact rt1 hs rfl rfl ⟨ad,cap,rfl,hw⟩
def cS (k n:Int) (s:ByteArray):List UInt8:=Ph.putI k ++ (if k=1 then Ph.putI n else if k=2 then Ph.putT s.data.toList else [])
theorem vC (w0 W:World) (v:Value) (l:List UInt8) (k n:Int) (s:ByteArray) (R:List Res) (hk0: -9223372036854775808≤k) (hk1:k≤9223372036854775807) (h0: -9223372036854775808≤n) (h1:n≤9223372036854775807) (hs0:s.size≤1000000000) (hl:l.length≤900000000) (hw:Has 0 w0 W (OwnB 5 v l::R)):
  Calls Tryz.prog 258 ⟨[v,.agg #[.int .i64 k,.int .i64 n,.string s]]⟩ W fun e W'=>∃ad cap,e= .returned (.slice ad (l ++ cS k n s).length cap)∧Has 0 w0 W' (OwnB 5 (.slice ad (l ++ cS k n s).length cap) (l ++ cS k n s)::R):=by
 have hpk:=Ph.putI_length_le k;refine en Tryz.func258 Tryz.ntmps258 fun a hs=>?_
 repeat (first|(refine sxv hs hw ?_;clear hs;intro a hs)|refine sxc hs ?_|(refine sxa hs hw ?_;clear hs hw;intro a b W hw hs)|(refine sxs hs hw ?_;clear hs hw;intro W hs hw))
 refine aH hs (hc:=eS w0 _ v l k _ hk0 hk1 (by omega) (hw.pick (by repeat (first|exact Pick.hd|apply Pick.tl)))) (k:=?_);rintro e0 W1 ⟨ad,cap,rfl,hw1⟩;refine ⟨_,rfl,?_⟩;clear hs hw;intro a hs;have hw:=hw1;clear hw1;refine zA hs hw ?_;clear hs;intro a hs;refine cI hs (kt:=fun hc=>?_) (kf:=fun hc=>?_)
 ·have hk:k=1:=by simpa using hc
  subst hk;refine zA hs hw ?_;clear hs;intro a hs;refine aH hs (hc:=eS w0 _ _ (l ++ Ph.putI 1) n _ h0 h1 (by rw [List.length_append];omega) (hw.pick (by repeat (first|exact Pick.hd|apply Pick.tl)))) (k:=?_);rintro e0 W1 ⟨ad,cap,rfl,hw1⟩;refine ⟨_,rfl,?_⟩;clear hs hw;intro a hs;have hw:=hw1;clear hw1;refine zA hs hw ?_;clear hs;intro a hs;have e:l ++ cS 1 n s=l ++ Ph.putI 1 ++ Ph.putI n:=by rw [List.append_assoc];rfl
  rw [←e] at hs hw;exact rt1 hs rfl rfl ⟨ad,cap,rfl,(hw.pick (by repeat (first|exact Pick.hd|apply Pick.tl))).sub (by repeat (first|exact List.Sublist.refl _|apply List.Sublist.cons_cons|apply List.Sublist.cons))⟩
 ·have hk:¬k=1:=by simpa using hc
  refine zA hs hw ?_;clear hs;intro a hs;refine cI hs (kt:=fun hc=>?_) (kf:=fun hc=>?_)
  ·have hk2:k=2:=by simpa using hc
   subst hk2;refine zA hs hw ?_;clear hs;intro a hs;refine aH hs (hc:=o4 w0 _ _ (l ++ Ph.putI 2) s _ hs0 (by rw [List.length_append];omega) (hw.pick (by repeat (first|exact Pick.hd|apply Pick.tl)))) (k:=?_);rintro e0 W1 ⟨ad,cap,rfl,hw1⟩;refine ⟨_,rfl,?_⟩;clear hs hw;intro a hs;have hw:=hw1;clear hw1;refine zA hs hw ?_;clear hs;intro a hs;have e:l ++ cS 2 n s=l ++ Ph.putI 2 ++ Ph.putT s.data.toList:=by rw [List.append_assoc];rfl
   rw [←e] at hs hw;exact rt1 hs rfl rfl ⟨ad,cap,rfl,(hw.pick (by repeat (first|exact Pick.hd|apply Pick.tl))).sub (by repeat (first|exact List.Sublist.refl _|apply List.Sublist.cons_cons|apply List.Sublist.cons))⟩
  ·have hk2:¬k=2:=by simpa using hc
   refine zA hs hw ?_;clear hs;intro a hs;have e:l ++ cS k n s=l ++ Ph.putI k:=by unfold cS;rw [if_neg hk,if_neg hk2,List.append_nil]
   rw [←e] at hs hw;exact rt1 hs rfl rfl ⟨ad,cap,rfl,(hw.pick (by repeat (first|exact Pick.hd|apply Pick.tl))).sub (by repeat (first|exact List.Sublist.refl _|apply List.Sublist.cons_cons|apply List.Sublist.cons))⟩
end Go.Proofs.YtgpbngfehfbndaaGreatDoor.Sw
namespace Go.Proofs.YtgpbngfehfbndaaGreatDoor
open Go.RowKit
open Go.Proofs.Tryz (prog)
theorem aEX {w w1 w2:World} (h:Below w.heap.size w w1) (k:Below w1.heap.size w1 w2):Below w.heap.size w w2:=h.trans (k.mono h.size)
def dN:Option (Int ⊕ ByteArray)→Value
 |none=> .nilIface
 |some (.inl n)=> .iface 261 (.int .i64 n)
 |some (.inr s)=> .iface 262 (.string s)
def bV (k n:Int) (s:ByteArray):Option (Int ⊕ ByteArray)×Int:=
 if k=0∧n=0∧s.size=0 then (none,0)
 else if k=1∧s.size=0 then (some (.inl n),0)
 else if k=2∧n=0∧s.size≤200∧Lib.validD s.data.toList=true then (some (.inr s),0)
 else (none,1)
set_option maxRecDepth 100000 in
theorem aEY (s:ByteArray) (h:¬0<s.size) (w:World) (hs:s.size≤9223372036854775807):
  Calls prog 274 #[.agg #[.int .i64 0,.int .i64 0,.string s]] w fun e w'=>e= .returned (.tuple #[.agg #[dN (bV 0 0 s).1],.int .i64 (bV 0 0 s).2])∧Below w.heap.size w w':=by
 have HF:Hid (bV 0 0 s=(none,0)):=by
  show _=_;unfold bV;rw [if_pos ⟨rfl,rfl,by omega⟩]
 have ex:=Ph.empty_yes h
 go_enter Tryz.func274,Tryz.ntmps274
 go_wp2
 refine bodyPost_ret (v:= .tuple #[.agg #[.nilIface],.int .i64 0]) (by simp [results,Tryz.results274,go_sem]) rfl ⟨?_,?_⟩
 ·rw [HF.out];rfl
 ·exact ((Below.refl _ _).alloc (Nat.le_refl _) _).alloc (by simp) _
set_option maxRecDepth 100000 in
theorem aEZ (n:Int) (s:ByteArray) (h:¬0<s.size) (w:World) (hs:s.size≤9223372036854775807):
  Calls prog 274 #[.agg #[.int .i64 1,.int .i64 n,.string s]] w fun e w'=>e= .returned (.tuple #[.agg #[dN (bV 1 n s).1],.int .i64 (bV 1 n s).2])∧Below w.heap.size w w':=by
 have HF:Hid (bV 1 n s=(some (.inl n),0)):=by
  show _=_;unfold bV;rw [if_neg (by omega),if_pos ⟨rfl,by omega⟩]
 have ex:=Ph.empty_yes h
 go_enter Tryz.func274,Tryz.ntmps274
 go_wp2
 refine bodyPost_ret (v:= .tuple #[.agg #[.iface 261 (.int .i64 n)],.int .i64 0]) (by simp [results,Tryz.results274,go_sem]) rfl ⟨?_,?_⟩
 ·rw [HF.out];rfl
 ·exact ((Below.refl _ _).alloc (Nat.le_refl _) _).alloc (by simp) _
set_option maxRecDepth 100000 in
theorem aE0 (n:Int) (s:ByteArray) (h:n≠0) (w:World) (hs:s.size≤9223372036854775807):
  Calls prog 274 #[.agg #[.int .i64 0,.int .i64 n,.string s]] w fun e w'=>e= .returned (.tuple #[.agg #[dN (bV 0 n s).1],.int .i64 (bV 0 n s).2])∧Below w.heap.size w w':=by
 have HF:Hid (bV 0 n s=(none,1)):=by
  show _=_;unfold bV;rw [if_neg (by omega),if_neg (by omega),if_neg (by omega)]
 have h':(n == 0)=false:=by simpa using h
 clear h
 go_enter Tryz.func274,Tryz.ntmps274
 go_wp2
 refine bodyPost_ret (v:= .tuple #[.agg #[.nilIface],.int .i64 1]) (by simp [results,Tryz.results274,go_sem]) rfl ⟨?_,?_⟩
 ·rw [HF.out];rfl
 ·exact ((Below.refl _ _).alloc (Nat.le_refl _) _).alloc (by simp) _
set_option maxRecDepth 100000 in
theorem aE1 (s:ByteArray) (h:0<s.size) (w:World) (hs:s.size≤9223372036854775807):
  Calls prog 274 #[.agg #[.int .i64 0,.int .i64 0,.string s]] w fun e w'=>e= .returned (.tuple #[.agg #[dN (bV 0 0 s).1],.int .i64 (bV 0 0 s).2])∧Below w.heap.size w w':=by
 have HF:Hid (bV 0 0 s=(none,1)):=by
  show _=_;unfold bV;rw [if_neg (by omega),if_neg (by omega),if_neg (by omega)]
 have ex:=Ph.empty_no h
 go_enter Tryz.func274,Tryz.ntmps274
 go_wp2
 refine bodyPost_ret (v:= .tuple #[.agg #[.nilIface],.int .i64 1]) (by simp [results,Tryz.results274,go_sem]) rfl ⟨?_,?_⟩
 ·rw [HF.out];rfl
 ·exact ((Below.refl _ _).alloc (Nat.le_refl _) _).alloc (by simp) _
set_option maxRecDepth 100000 in
theorem aE2 (n:Int) (s:ByteArray) (h:0<s.size) (w:World) (hs:s.size≤9223372036854775807):
  Calls prog 274 #[.agg #[.int .i64 1,.int .i64 n,.string s]] w fun e w'=>e= .returned (.tuple #[.agg #[dN (bV 1 n s).1],.int .i64 (bV 1 n s).2])∧Below w.heap.size w w':=by
 have HF:Hid (bV 1 n s=(none,1)):=by
  show _=_;unfold bV;rw [if_neg (by omega),if_neg (by omega),if_neg (by omega)]
 have ex:=Ph.empty_no h
 go_enter Tryz.func274,Tryz.ntmps274
 go_wp2
 refine bodyPost_ret (v:= .tuple #[.agg #[.nilIface],.int .i64 1]) (by simp [results,Tryz.results274,go_sem]) rfl ⟨?_,?_⟩
 ·rw [HF.out];rfl
 ·exact ((Below.refl _ _).alloc (Nat.le_refl _) _).alloc (by simp) _
set_option maxRecDepth 100000 in
theorem aE3 (n:Int) (s:ByteArray) (h:n≠0) (w:World) (hs:s.size≤9223372036854775807):
  Calls prog 274 #[.agg #[.int .i64 2,.int .i64 n,.string s]] w fun e w'=>e= .returned (.tuple #[.agg #[dN (bV 2 n s).1],.int .i64 (bV 2 n s).2])∧Below w.heap.size w w':=by
 have HF:Hid (bV 2 n s=(none,1)):=by
  show _=_;unfold bV;rw [if_neg (by omega),if_neg (by omega),if_neg (by omega)]
 have h':(n == 0)=false:=by simpa using h
 clear h
 go_enter Tryz.func274,Tryz.ntmps274
 go_wp2
 refine bodyPost_ret (v:= .tuple #[.agg #[.nilIface],.int .i64 1]) (by simp [results,Tryz.results274,go_sem]) rfl ⟨?_,?_⟩
 ·rw [HF.out];rfl
 ·exact ((Below.refl _ _).alloc (Nat.le_refl _) _).alloc (by simp) _
set_option maxRecDepth 100000 in
theorem aE4 (s:ByteArray) (h:200<s.size) (w:World) (hs:s.size≤9223372036854775807):
  Calls prog 274 #[.agg #[.int .i64 2,.int .i64 0,.string s]] w fun e w'=>e= .returned (.tuple #[.agg #[dN (bV 2 0 s).1],.int .i64 (bV 2 0 s).2])∧Below w.heap.size w w':=by
 have HF:Hid (bV 2 0 s=(none,1)):=by
  show _=_;unfold bV;rw [if_neg (by omega),if_neg (by omega),if_neg (by omega)]
 have h':(200:Int)<(s.size:Int):=by omega
 go_enter Tryz.func274,Tryz.ntmps274
 go_wp2
 refine bodyPost_ret (v:= .tuple #[.agg #[.nilIface],.int .i64 1]) (by simp [results,Tryz.results274,go_sem]) rfl ⟨?_,?_⟩
 ·rw [HF.out];rfl
 ·exact ((Below.refl _ _).alloc (Nat.le_refl _) _).alloc (by simp) _
set_option maxRecDepth 100000 in
theorem aE5 (s:ByteArray) (h:s.size≤200) (hv:Lib.validD s.data.toList=false) (w:World) (hs:s.size≤9223372036854775807) (hT:Tabs w):
  Calls prog 274 #[.agg #[.int .i64 2,.int .i64 0,.string s]] w fun e w'=>e= .returned (.tuple #[.agg #[dN (bV 2 0 s).1],.int .i64 (bV 2 0 s).2])∧Below w.heap.size w w':=by
 have HF:Hid (bV 2 0 s=(none,1)):=by
  show _=_;unfold bV;rw [if_neg (by omega),if_neg (by omega),if_neg (by rw [hv];simp)]
 have h':(s.size:Int)≤200:=by omega
 go_enter Tryz.func274,Tryz.ntmps274
 go_wp2_with fail
 refine (uM _ _ hs (hT.keep (((Below.refl _ _).alloc (Nat.le_refl _) _).alloc (by simp) _))).mono ?_;rintro e w1 ⟨rfl,hb⟩;rw [hv];clear hv;have hz:=hb.size;have h1:w1.cell? ⟨w.heap.size,0,none⟩=some (.int .i64 2):=by rw [hb.cell (p:=⟨w.heap.size,0,none⟩) (by simp;omega)];simp [go_sem]
 have h2:w1.cell? ⟨w.heap.size,2,none⟩=some (.string s):=by rw [hb.cell (p:=⟨w.heap.size,2,none⟩) (by simp;omega)];simp [go_sem]
 have h3:w1.cell? ⟨w.heap.size+1,0,none⟩=some .nilIface:=by rw [hb.cell (p:=⟨w.heap.size+1,0,none⟩) (by simp)];simp [go_sem]
 have h4:w1.frozen? ⟨w.heap.size+1,0,none⟩=false:=by rw [hb.frozen (p:=⟨w.heap.size+1,0,none⟩) (by simp)];simp [go_sem]
 have h6:∀u,(w1.setCell ⟨w.heap.size+1,0,none⟩ u).cell? ⟨w.heap.size+1,0,none⟩=some u:=fun u=>World.cell?_setCell_same _ _ _ h3;have h5:w.heap.size+1<w1.heap.size:=by simp at hz;omega
 go_wp2
 refine bodyPost_ret (v:= .tuple #[.agg #[.nilIface],.int .i64 1]) (by simp [results,Tryz.results274,go_sem,h6]) rfl ⟨?_,?_⟩
 ·rw [HF.out];rfl
 ·exact ((((Below.refl w.heap.size w).alloc (Nat.le_refl _) _).alloc (by simp) _).trans (hb.mono (by simp;omega))).setCell (by simp) _
set_option maxRecDepth 100000 in
theorem aE6 (s:ByteArray) (h:s.size≤200) (hv:Lib.validD s.data.toList=true) (w:World) (hs:s.size≤9223372036854775807) (hT:Tabs w):
  Calls prog 274 #[.agg #[.int .i64 2,.int .i64 0,.string s]] w fun e w'=>e= .returned (.tuple #[.agg #[dN (bV 2 0 s).1],.int .i64 (bV 2 0 s).2])∧Below w.heap.size w w':=by
 have HF:Hid (bV 2 0 s=(some (.inr s),0)):=by
  show _=_;unfold bV;rw [if_neg (by omega),if_neg (by omega),if_pos ⟨rfl,rfl,h,hv⟩]
 have h':(s.size:Int)≤200:=by omega
 go_enter Tryz.func274,Tryz.ntmps274
 go_wp2_with fail
 refine (uM _ _ hs (hT.keep (((Below.refl _ _).alloc (Nat.le_refl _) _).alloc (by simp) _))).mono ?_;rintro e w1 ⟨rfl,hb⟩;rw [hv];clear hv;have hz:=hb.size;have h1:w1.cell? ⟨w.heap.size,0,none⟩=some (.int .i64 2):=by rw [hb.cell (p:=⟨w.heap.size,0,none⟩) (by simp;omega)];simp [go_sem]
 have h2:w1.cell? ⟨w.heap.size,2,none⟩=some (.string s):=by rw [hb.cell (p:=⟨w.heap.size,2,none⟩) (by simp;omega)];simp [go_sem]
 have h3:w1.cell? ⟨w.heap.size+1,0,none⟩=some .nilIface:=by rw [hb.cell (p:=⟨w.heap.size+1,0,none⟩) (by simp)];simp [go_sem]
 have h4:w1.frozen? ⟨w.heap.size+1,0,none⟩=false:=by rw [hb.frozen (p:=⟨w.heap.size+1,0,none⟩) (by simp)];simp [go_sem]
 have h6:∀u,(w1.setCell ⟨w.heap.size+1,0,none⟩ u).cell? ⟨w.heap.size+1,0,none⟩=some u:=fun u=>World.cell?_setCell_same _ _ _ h3;have h5:w.heap.size+1<w1.heap.size:=by simp at hz;omega
 go_wp2
 refine bodyPost_ret (v:= .tuple #[.agg #[.iface 262 (.string s)],.int .i64 0]) (by simp [results,Tryz.results274,go_sem,h6]) rfl ⟨?_,?_⟩
 ·rw [HF.out];rfl
 ·exact ((((Below.refl w.heap.size w).alloc (Nat.le_refl _) _).alloc (by simp) _).trans (hb.mono (by simp;omega))).setCell (by simp) _
set_option maxRecDepth 100000 in
theorem aE7 (k n:Int) (s:ByteArray) (h0:k≠0) (h1:k≠1) (h2:k≠2) (w:World) (hs:s.size≤9223372036854775807):
  Calls prog 274 #[.agg #[.int .i64 k,.int .i64 n,.string s]] w fun e w'=>e= .returned (.tuple #[.agg #[dN (bV k n s).1],.int .i64 (bV k n s).2])∧Below w.heap.size w w':=by
 have HF:Hid (bV k n s=(none,1)):=by
  show _=_;unfold bV;rw [if_neg (by omega),if_neg (by omega),if_neg (by omega)]
 have h0':(k == 0)=false:=by simpa using h0
 have h1':(k == 1)=false:=by simpa using h1
 have h2':(k == 2)=false:=by simpa using h2
 clear h0 h1 h2
 go_enter Tryz.func274,Tryz.ntmps274
 go_wp2
 refine bodyPost_ret (v:= .tuple #[.agg #[.nilIface],.int .i64 1]) (by simp [results,Tryz.results274,go_sem]) rfl ⟨?_,?_⟩
 ·rw [HF.out];rfl
 ·exact ((Below.refl _ _).alloc (Nat.le_refl _) _).alloc (by simp) _
theorem lO (k n:Int) (s:ByteArray) (w:World) (hs:s.size≤9223372036854775807) (hT:Tabs w):
  Calls prog 274 #[.agg #[.int .i64 k,.int .i64 n,.string s]] w fun e w'=>e= .returned (.tuple #[.agg #[dN (bV k n s).1],.int .i64 (bV k n s).2])∧Below w.heap.size w w':=by
 by_cases k0:k=0
 ·subst k0
  by_cases n0:n=0
  ·subst n0
   by_cases s0:0<s.size
   ·exact aE1 s s0 w hs
   ·exact aEY s s0 w hs
  ·exact aE0 n s n0 w hs
 by_cases k1:k=1
 ·subst k1
  by_cases s0:0<s.size
  ·exact aE2 n s s0 w hs
  ·exact aEZ n s s0 w hs
 by_cases k2:k=2
 ·subst k2
  by_cases n0:n=0
  ·subst n0
   by_cases sl:s.size≤200
   ·cases hv:Lib.validD s.data.toList
    ·exact aE5 s sl hv w hs hT
    ·exact aE6 s sl hv w hs hT
   ·exact aE4 s (by omega) w hs
  ·exact aE3 n s n0 w hs
 exact aE7 k n s k0 k1 k2 w hs
theorem aEn (s:ByteArray) (w:World) (hs:s.size≤9223372036854775807) (hT:Tabs w):
  Calls prog 272 #[.string s] w fun e w'=>e= .returned (.bool (Ph.keyB s.data.toList))∧Below w.heap.size w w':=by
 have hcl:=Ph.count_le s
 go_enter Tryz.func272,Tryz.ntmps272
 go_wp2
 go_loopw [3] (fun n wr=>∃pos k:Nat,wr=w.iter s pos∧n= .int .i64 k∧k≤s.size∧Hid (k+(Ph.rs (s.data.toList.drop pos)).length=Ph.count s.data.toList)∧Hid (Ph.plainB (Ph.rs s.data.toList)=Ph.plainB (Ph.rs (s.data.toList.drop pos)))) (fun _ wr=>s.size - wr.iterPos w.heap.size)
 case atStart=>exact ⟨0,0,rfl,rfl,by omega,by unfold Hid;simp [Ph.count],by unfold Hid;simp⟩
 case round=>
  obtain ⟨pos,k,rfl,rfl,hkb,HK,HP⟩:=hrel
  by_cases hp:pos<s.size
  ·have hnx:=fun ty=>run_next_any (P:=prog) w s pos ty hp;have HR:Hid (Ph.rs (s.data.toList.drop pos)=Utf8.decode s pos::Ph.rs (s.data.toList.drop (pos+(Utf8.decode s pos).2))):=Ph.rs_at s pos hp;have hk1:k+1≤s.size:=by
    have h1:=HK.out;rw [HR.out,List.length_cons] at h1;omega
   have bad:(Utf8.decode s pos).1<32∨(Utf8.decode s pos).1=127→Ph.keyB s.data.toList=false:=fun h=>Ph.keyB_bad (by rw [HP.out,HR.out,Ph.plainB_bad h]);have BAD:=Lib.hid bad;clear bad
   by_cases h32:(Utf8.decode s pos).1<32
   ·have h32':((Utf8.decode s pos).1:Int)<32:=by omega
    go_wp2
    go_ret
    exact ⟨oR (BAD.out (.inl h32)).symm,(Below.refl _ _).alloc (Nat.le_refl _) _⟩
   ·by_cases h127:(Utf8.decode s pos).1=127
    ·have h32':(32:Int)≤((Utf8.decode s pos).1:Int):=by omega
     have h127':(((Utf8.decode s pos).1:Int) == 127)=true:=by rw [beq_iff_eq];omega
     have HB:Hid (Ph.keyB s.data.toList=false):=BAD.out (.inr h127);clear h127
     go_wp2
     go_ret
     exact ⟨oR HB.out.symm,(Below.refl _ _).alloc (Nat.le_refl _) _⟩
    ·have h32':(32:Int)≤((Utf8.decode s pos).1:Int):=by omega
     have h127':(((Utf8.decode s pos).1:Int) == 127)=false:=by rw [beq_eq_false_iff_ne];omega
     have HG:Hid (¬((Utf8.decode s pos).1<32∨(Utf8.decode s pos).1=127)):=by show¬_;omega
     clear h127
     go_wp2
     go_roundw
     case rel=>
      refine ⟨pos+(Utf8.decode s pos).2,k+1,rfl,by go_num,hk1,?_,?_⟩
      ·have h1:=HK.out;rw [HR.out,List.length_cons] at h1;show _=_;omega
      ·show _=_;rw [HP.out,HR.out,Ph.plainB_good HG.out]
     case measure=>
      have:=Ph.width_pos s pos;rw [World.iterPos_iter,World.iterPos_iter];omega
  ·have hnx:=fun ty=>run_next_end (P:=prog) w s pos ty hp;have hT2:Tabs (w.iter s pos):=hT.keep ((Below.refl _ _).alloc (Nat.le_refl _) _);have HK2:Hid (k=Ph.count s.data.toList∧Ph.plainB (Ph.rs s.data.toList)=true):=by
    have h1:=HK.out;have h2:=HP.out;rw [Ph.rs_end s pos hp] at h1 h2;exact ⟨h1,h2⟩
   by_cases h1:1≤k∧k≤40
   ·obtain ⟨ha,hb'⟩:=h1;have ha':(1:Int)≤(k:Int):=by omega
    have hb'':(k:Int)≤40:=by omega
    go_wp2_with (go_at_call 304;refine (uM _ _ hs hT2).mono ?_;rintro e w' ⟨rfl,hb⟩)
    go_ret
    refine ⟨oR ?_,((Below.refl _ _).alloc (Nat.le_refl _) (.stringIter s _)).trans (hb.mono (by simp [World.iter]))⟩;rw [Ph.keyB_long HK2.out.2 (by rw [←HK2.out.1];omega) (by rw [←HK2.out.1];omega)]
   ·have HS:Hid (Ph.keyB s.data.toList=false):=Ph.keyB_short (by rw [←HK2.out.1];exact h1)
    by_cases ha:1≤k
    ·have ha':(1:Int)≤(k:Int):=by omega
     have hb'':(40:Int)<(k:Int):=by omega
     clear h1
     go_wp2
     go_ret
     exact ⟨oR HS.out.symm,(Below.refl _ _).alloc (Nat.le_refl _) _⟩
    ·have ha':(k:Int)<1:=by omega
     clear h1
     go_wp2
     go_ret
     exact ⟨oR HS.out.symm,(Below.refl _ _).alloc (Nat.le_refl _) _⟩
theorem aAh:(prog.info? 5).map (fun i=>(i.zero,i.size,i.bytes))=some (some (.int .u8 0),1,1):=by kernel_rfl
theorem aF2 {a a' b b' c c':Int} (h1:a=a') (h2:b=b') (h3:c=c'):Ending.returned (.tuple #[.int .i64 a,.int .i64 b,.int .i64 c])= .returned (.tuple #[.int .i64 a',.int .i64 b',.int .i64 c']):=by rw [h1,h2,h3]
def lR (w:World) (B:Nat) (v:Value) (l:List UInt8):Prop:=w.ownsRow B 5 1 v l.length (Lib.byteCells l)
theorem u8w (x:Nat) (h:x<128):IntKind.u8.wrap (x:Int)=((x.toUInt8).toNat:Int):=by
 rw [IntKind.wrap_u8,Ph.u8n x (by omega)];omega
theorem u8p (x:Nat) (h:x<128):(x:Int)=((x.toUInt8).toNat:Int):=by rw [Ph.u8n x (by omega)]
theorem u8o (x:Nat):bits .or .u8 (IntKind.u8.wrap (x:Int)) 128=(((x % 128+128).toUInt8).toNat:Int):=by
 have e:IntKind.u8.wrap (x:Int)=((x % 256:Nat):Int):=by rw [IntKind.wrap_u8];omega
 rw [e,Ph.or128_at _ (by omega),Ph.u8n _ (by omega)];omega
set_option maxRecDepth 100000 in
theorem aF3 (B:Nat) (v:Value) (l:List UInt8) (n:Int) (w:World) (h0: -9223372036854775808≤n) (h1:n≤9223372036854775807) (hn:0≤n) (ho:lR w B v l) (hl:l.length≤1000000000) (hB:B≤w.heap.size):
  Calls prog 115 #[v,.int .i64 n] w fun e w'=>∃v',e= .returned v'∧lR w' B v' (l ++ Ph.putI n)∧Below B w w'∧B≤w'.heap.size:=by
 obtain ⟨ib,hib,hbz,hbs,hbb⟩:=info_parts aAh;have HO:Hid (w.ownsRow B 5 1 v l.length (Lib.byteCells l)):=ho;have HZ:=Lib.hid (Ph.zig_small h0 h1).1;clear ho
 go_enter Tryz.func115,Tryz.ntmps115
 go_wp2
 go_loopw [0,5] (fun b u wr=>∃(acc:List UInt8) (f x:Nat),u= .int .u64 x∧Hid (x<128 ^ f)∧1≤f∧f≤10∧acc.length+f≤l.length+10∧Hid (wr.ownsRow B 5 1 b acc.length (Lib.byteCells acc))∧Below B w wr∧B≤wr.heap.size∧Hid (acc ++ Ph.putN f x=l ++ Ph.putI n)) (fun _ u _=>(intOf u).toNat)
 case atStart=>exact ⟨l,10,Ph.zig n,by rw [Ph.zig_pos n hn],HZ.out,by omega,by omega,by omega,HO.out,Below.refl _ _,hB,rfl⟩
 case round=>
  obtain ⟨acc,f,x,rfl,HX,hf1,hf2,hal,HR,hbw,hBw,HE⟩:=hrel;have hr:=HR.out
  by_cases hx:x<128
  ·have hx':(x:Int)≤127:=by omega
   go_wp2_with (at_builtin;refine wpList_append_own _ rfl (.tmp 23) (.tmp 26) 146 rfl (B) 5 ib (.int .u8 0) 1 1 Tryz.underlying146 hib hbz hbs hbb rfl (by decide) _ acc.length _ rfl (hr.alloc _) ⟨wr.heap.size,0,none⟩ 1 1 [?xv] rfl rfl ?c1 ?c2 ?c3 ?c4 ?c5 ?_)
   case c1=>exact (cell_one_new _ _ _)
   case c2=>simp [Value.oneCell']
   case c3=>unfold maxLen;omega
   case c4=>omega
   case c5=>simp;omega
   intro b1 w1 hr1 hg1 _;have hb1:Below (B) w w1:=(hbw.alloc hBw _).grown hg1 (by simp;omega) (fun g hg=>(hr.lt g hg).1);have hB1:B≤w1.heap.size:=by have:=hg1.size;simp at this;omega
   have hr2:=rX (c:=x.toUInt8) hr1 (u8p x hx);have HF:Hid (acc ++ [x.toUInt8]=l ++ Ph.putI n):=by
    show _=_;rw [←HE.out];obtain ⟨g,rfl⟩:∃g,f=g+1:=⟨f - 1,by omega⟩
    rw [Ph.putN_last g x hx]
   clear hr hr1
   go_wp2
   go_ret
   refine ⟨_,rfl,?_,hb1,hB1⟩;unfold lR;rw [←HF.out];exact hr2
  ·have hx':(127:Int)<(x:Int):=by omega
   obtain ⟨g,hfg,hg1',hxg,hpn⟩:=Ph.putN_split f x hx HX.out;have HPN:=Lib.hid hpn;have HXG:=Lib.hid hxg;clear hpn hxg
   go_wp2_with (at_builtin;refine wpList_append_own _ rfl (.tmp 15) (.tmp 19) 146 rfl (B) 5 ib (.int .u8 0) 1 1 Tryz.underlying146 hib hbz hbs hbb rfl (by decide) _ acc.length _ rfl (hr.alloc _) ⟨wr.heap.size,0,none⟩ 1 1 [?yv] rfl rfl ?d1 ?d2 ?d3 ?d4 ?d5 ?_)
   case d1=>exact (cell_one_new _ _ _)
   case d2=>simp [Value.oneCell']
   case d3=>unfold maxLen;omega
   case d4=>omega
   case d5=>simp;omega
   intro b1 w1 hr1 hg1 _;have hb1:Below (B) w w1:=(hbw.alloc hBw _).grown hg1 (by simp;omega) (fun g hg=>(hr.lt g hg).1);have hB1:B≤w1.heap.size:=by have:=hg1.size;simp at this;omega
   have hr2:=rX (c:=(x % 128+128).toUInt8) hr1 (u8o x);have HF:Hid (acc ++ [(x % 128+128).toUInt8] ++ Ph.putN g (x / 128)=l ++ Ph.putI n):=by
    show _=_;rw [←HE.out,HPN.out];simp
   have HR2:=Lib.hid hr2;clear hr hr1 hr2
   go_wp2
   go_roundw
   case rel=>exact ⟨acc ++ [(x % 128+128).toUInt8],g,x / 128,by go_num,HXG.out,hg1',by omega,by simp;omega,HR2.out,hb1,hB1,HF.out⟩
   case measure=>simp [intOf];omega
set_option maxRecDepth 100000 in
theorem aF4 (B:Nat) (v:Value) (l:List UInt8) (n:Int) (w:World) (h0: -9223372036854775808≤n) (h1:n≤9223372036854775807) (hn:n<0) (ho:lR w B v l) (hl:l.length≤1000000000) (hB:B≤w.heap.size):
  Calls prog 115 #[v,.int .i64 n] w fun e w'=>∃v',e= .returned v'∧lR w' B v' (l ++ Ph.putI n)∧Below B w w'∧B≤w'.heap.size:=by
 obtain ⟨ib,hib,hbz,hbs,hbb⟩:=info_parts aAh;have HO:Hid (w.ownsRow B 5 1 v l.length (Lib.byteCells l)):=ho;have HZ:=Lib.hid (Ph.zig_small h0 h1).1;clear ho
 go_enter Tryz.func115,Tryz.ntmps115
 go_wp2
 go_loopw [0,5] (fun b u wr=>∃(acc:List UInt8) (f x:Nat),u= .int .u64 x∧Hid (x<128 ^ f)∧1≤f∧f≤10∧acc.length+f≤l.length+10∧Hid (wr.ownsRow B 5 1 b acc.length (Lib.byteCells acc))∧Below B w wr∧B≤wr.heap.size∧Hid (acc ++ Ph.putN f x=l ++ Ph.putI n)) (fun _ u _=>(intOf u).toNat)
 case atStart=>exact ⟨l,10,Ph.zig n,by rw [Ph.zig_neg n h0 hn],HZ.out,by omega,by omega,by omega,HO.out,Below.refl _ _,hB,rfl⟩
 case round=>
  obtain ⟨acc,f,x,rfl,HX,hf1,hf2,hal,HR,hbw,hBw,HE⟩:=hrel;have hr:=HR.out
  by_cases hx:x<128
  ·have hx':(x:Int)≤127:=by omega
   go_wp2_with (at_builtin;refine wpList_append_own _ rfl (.tmp 23) (.tmp 26) 146 rfl (B) 5 ib (.int .u8 0) 1 1 Tryz.underlying146 hib hbz hbs hbb rfl (by decide) _ acc.length _ rfl (hr.alloc _) ⟨wr.heap.size,0,none⟩ 1 1 [?xv] rfl rfl ?c1 ?c2 ?c3 ?c4 ?c5 ?_)
   case c1=>exact (cell_one_new _ _ _)
   case c2=>simp [Value.oneCell']
   case c3=>unfold maxLen;omega
   case c4=>omega
   case c5=>simp;omega
   intro b1 w1 hr1 hg1 _;have hb1:Below (B) w w1:=(hbw.alloc hBw _).grown hg1 (by simp;omega) (fun g hg=>(hr.lt g hg).1);have hB1:B≤w1.heap.size:=by have:=hg1.size;simp at this;omega
   have hr2:=rX (c:=x.toUInt8) hr1 (u8p x hx);have HF:Hid (acc ++ [x.toUInt8]=l ++ Ph.putI n):=by
    show _=_;rw [←HE.out];obtain ⟨g,rfl⟩:∃g,f=g+1:=⟨f - 1,by omega⟩
    rw [Ph.putN_last g x hx]
   clear hr hr1
   go_wp2
   go_ret
   refine ⟨_,rfl,?_,hb1,hB1⟩;unfold lR;rw [←HF.out];exact hr2
  ·have hx':(127:Int)<(x:Int):=by omega
   obtain ⟨g,hfg,hg1',hxg,hpn⟩:=Ph.putN_split f x hx HX.out;have HPN:=Lib.hid hpn;have HXG:=Lib.hid hxg;clear hpn hxg
   go_wp2_with (at_builtin;refine wpList_append_own _ rfl (.tmp 15) (.tmp 19) 146 rfl (B) 5 ib (.int .u8 0) 1 1 Tryz.underlying146 hib hbz hbs hbb rfl (by decide) _ acc.length _ rfl (hr.alloc _) ⟨wr.heap.size,0,none⟩ 1 1 [?yv] rfl rfl ?d1 ?d2 ?d3 ?d4 ?d5 ?_)
   case d1=>exact (cell_one_new _ _ _)
   case d2=>simp [Value.oneCell']
   case d3=>unfold maxLen;omega
   case d4=>omega
   case d5=>simp;omega
   intro b1 w1 hr1 hg1 _;have hb1:Below (B) w w1:=(hbw.alloc hBw _).grown hg1 (by simp;omega) (fun g hg=>(hr.lt g hg).1);have hB1:B≤w1.heap.size:=by have:=hg1.size;simp at this;omega
   have hr2:=rX (c:=(x % 128+128).toUInt8) hr1 (u8o x);have HF:Hid (acc ++ [(x % 128+128).toUInt8] ++ Ph.putN g (x / 128)=l ++ Ph.putI n):=by
    show _=_;rw [←HE.out,HPN.out];simp
   have HR2:=Lib.hid hr2;clear hr hr1 hr2
   go_wp2
   go_roundw
   case rel=>exact ⟨acc ++ [(x % 128+128).toUInt8],g,x / 128,by go_num,HXG.out,hg1',by omega,by simp;omega,HR2.out,hb1,hB1,HF.out⟩
   case measure=>simp [intOf];omega
theorem eS (B:Nat) (v:Value) (l:List UInt8) (n:Int) (w:World) (h0: -9223372036854775808≤n) (h1:n≤9223372036854775807) (ho:lR w B v l) (hl:l.length≤1000000000) (hB:B≤w.heap.size):
  Calls prog 115 #[v,.int .i64 n] w fun e w'=>∃v',e= .returned v'∧lR w' B v' (l ++ Ph.putI n)∧Below B w w'∧B≤w'.heap.size:=by
 by_cases hn:n<0
 ·exact aF4 B v l n w h0 h1 hn ho hl hB
 ·exact aF3 B v l n w h0 h1 (by omega) ho hl hB
theorem sC {l:List UInt8} {a b c:Int} (h:Ph.getI l=(a,b.toNat,c)) (hb:0≤b):Ending.returned (.tuple #[.int .i64 a,.int .i64 b,.int .i64 c])= .returned (.tuple #[.int .i64 (Ph.getI l).1,.int .i64 (Ph.getI l).2.1,.int .i64 (Ph.getI l).2.2]):=by
 rw [h];exact aF2 rfl (by simp;omega) rfl
theorem sD {l:List UInt8} {a b c a' c':Int} {b':Nat} (h:Ph.getI l=(a',b',c')) (h1:a=a') (h2:b=b') (h3:c=c'):Ending.returned (.tuple #[.int .i64 a,.int .i64 b,.int .i64 c])= .returned (.tuple #[.int .i64 (Ph.getI l).1,.int .i64 (Ph.getI l).2.1,.int .i64 (Ph.getI l).2.2]):=by
 rw [h,h1,h2,h3]
theorem aF5 (c:Nat) (w:World):
  Calls prog 156 #[.slice none 0 c] w fun e w'=>e= .returned (.tuple #[.int .i64 (Ph.getI []).1,.int .i64 (Ph.getI []).2.1,.int .i64 (Ph.getI []).2.2])∧w=w':=by
 go_enter Tryz.func156,Tryz.ntmps156
 go_wp2
 go_loop [5,11] (fun u i=>u= .int .u64 0∧i= .int .i64 0) (fun _ i=>0)
 case atStart=>exact ⟨rfl,rfl⟩
 case round=>
  obtain ⟨rfl,rfl⟩:=hrel
  go_wp2
  go_ret3
  exact ⟨rfl,rfl⟩
set_option maxRecDepth 100000 in
theorem aF6 (b off cap:Nat) (l:List UInt8) (w:World) (hl:l.length≤cap) (hm:cap≤9223372036854775807) (hc:∀j (h:j<l.length),w.cell? ⟨b,off+j,none⟩=some (.int .u8 (l[j].toNat:Int))):
  Calls prog 156 #[.slice (some ⟨b,off,none⟩) l.length cap] w fun e w'=>e= .returned (.tuple #[.int .i64 (Ph.getI l).1,.int .i64 (Ph.getI l).2.1,.int .i64 (Ph.getI l).2.2])∧w=w':=by
 have HC:=Lib.hid hc;clear hc
 go_enter Tryz.func156,Tryz.ntmps156
 go_wp2
 go_loop [5,11] (fun u i=>∃k x:Nat,k≤l.length∧k≤9∧i= .int .i64 k∧u= .int .u64 x∧Hid (x<128 ^ k)∧Hid (Ph.getI l=Ph.getN k x (l.drop k))) (fun _ i=>l.length - (intOf i).toNat)
 case atStart=>exact ⟨0,0,by omega,by omega,rfl,rfl,by show 0<128 ^ 0;decide,rfl⟩
 case round=>
  obtain ⟨k,x,hk,hk9,rfl,rfl,HX,HK⟩:=hrel
  by_cases hlt:k<l.length
  ·have hlt':(k:Int)<(l.length:Int):=by omega
   have hcell:=HC.out k hlt;have HD:Hid (l.drop k=l[k]::l.drop (k+1)):=List.drop_eq_getElem_cons hlt;have hcb:=(l[k]).toNat_lt;generalize l[k]=c at *
   by_cases h9:k=9
   ·subst h9;have e9:(128:Nat) ^ 9=9223372036854775808:=by decide
    by_cases hc1:1<c.toNat
    ·have hc1':(1:Int)<(c.toNat:Int):=by omega
     have HF:Hid (Ph.getI l=(0,0,1)):=by show _=_;rw [HK.out,HD.out,Ph.getN_big _ _ _ _ rfl hc1]
     clear e9
     go_wp2
     go_ret3
     exact ⟨sC HF.out (by omega),rfl⟩
    ·have hc1':(c.toNat:Int)≤1:=by omega
     have hc2':(c.toNat:Int)≤127:=by omega
     have hor:=Ph.or_last x c.toNat HX.out (by omega);have hy:x+c.toNat % 128*128 ^ 9<18446744073709551616:=by have:=HX.out;omega
     clear e9
     by_cases hz:c.toNat=0
     ·have hz':((c.toNat:Int) == 0)=true:=by rw [beq_iff_eq];omega
      have HF:Hid (Ph.getI l=(0,0,1)):=by show _=_;rw [HK.out,HD.out,Ph.getN_zero _ _ _ _ (by omega) hz]
      have HYY:=Lib.hid hy;clear hz hy
      go_wp2
      go_ret3
      exact ⟨sC HF.out (by omega),rfl⟩
     ·have hz':((c.toNat:Int) == 0)=false:=by rw [beq_eq_false_iff_ne];omega
      have HF:Hid (Ph.getI l=(Ph.unzig (x+c.toNat % 128*128 ^ 9),9+1,0)):=by show _=_;rw [HK.out,HD.out,Ph.getN_last _ _ _ _ (by omega) (by omega) (by omega)]
      clear hz;generalize x+c.toNat % 128*128 ^ 9=y at *;have HYY:=Lib.hid hy;have hod:=and_one_u64 (y:Int) (by omega) (by omega);have hnt:=i64_not (y / 2) (by omega);have hdv:(0:Int)≤(y:Int) / 2:=by omega
      have hdv2:(y:Int) / 2≤9223372036854775807:=by omega
      clear hy
      by_cases ho:y % 2=1
      ·have ho':((y:Int) % 2 == 1)=true:=by rw [beq_iff_eq];omega
       have HU:=Lib.hid (Ph.unzig_odd y ho);clear ho
       go_wp2
       go_ret3
       refine ⟨sD HF.out ?_ rfl rfl,rfl⟩;have e:(y:Int) / 2=((y / 2:Nat):Int):=by omega
       show bits BinOp.xor IntKind.i64 (-1) ((y:Int) / 2)=_;rw [e,i64_not _ (by have:=HYY.out;omega),HU.out]
      ·have ho':((y:Int) % 2 == 1)=false:=by rw [beq_eq_false_iff_ne];omega
       have HU:=Lib.hid (Ph.unzig_even y (by omega));clear ho
       go_wp2
       go_ret3
       refine ⟨sD HF.out ?_ rfl rfl,rfl⟩;show (y:Int) / 2=_;rw [HU.out];omega
   ·have h9':((k:Int) == 9)=false:=by rw [beq_eq_false_iff_ne];omega
    have hsm:=Ph.sum_small x c.toNat k HX.out (by omega) hcb;have hor:=Ph.or_seven x c.toNat k HX.out hcb hsm.1 (by omega);have hy:x+c.toNat % 128*128 ^ k<9223372036854775808:=by
     have h1:=hsm.2;have h2:(128:Nat) ^ (k+1)≤128 ^ 9:=Nat.pow_le_pow_right (by omega) (by omega);have e9:(128:Nat) ^ 9=9223372036854775808:=by decide
     omega
    have HSM:=Lib.hid hsm.2;clear hsm
    by_cases hc1:127<c.toNat
    ·have hc1':(127:Int)<(c.toNat:Int):=by omega
     have HF:Hid (Ph.getI l=Ph.getN (k+1) (x+c.toNat % 128*128 ^ k) (l.drop (k+1))):=by show _=_;rw [HK.out,HD.out,Ph.getN_more _ _ _ _ h9 (by omega)]
     generalize x+c.toNat % 128*128 ^ k=y at *;have HYY:=Lib.hid hy;clear hy
     go_wp2
     go_round
     case rel=>exact ⟨k+1,y,by omega,by omega,by go_num,rfl,HSM.out,HF.out⟩
     case measure=>simp [intOf];omega
    ·have hc1':(c.toNat:Int)≤127:=by omega
     by_cases hz:0<k∧c.toNat=0
     ·obtain ⟨hz1,hz2⟩:=hz;have hk0:(0:Int)<(k:Int):=by omega
      have hz':((c.toNat:Int) == 0)=true:=by rw [beq_iff_eq];omega
      have HF:Hid (Ph.getI l=(0,0,1)):=by show _=_;rw [HK.out,HD.out,Ph.getN_zero _ _ _ _ hz1 hz2]
      have HYY:=Lib.hid hy;clear hy hz2
      go_wp2
      go_ret3
      exact ⟨sC HF.out (by omega),rfl⟩
     ·have HF:Hid (Ph.getI l=(Ph.unzig (x+c.toNat % 128*128 ^ k),k+1,0)):=by show _=_;rw [HK.out,HD.out,Ph.getN_last _ _ _ _ (by omega) (by omega) hz]
      have HZZ:=Lib.hid hz;clear hz;generalize x+c.toNat % 128*128 ^ k=y at *;have HYY:=Lib.hid hy;have hod:=and_one_u64 (y:Int) (by omega) (by omega);have hdv:(0:Int)≤(y:Int) / 2:=by omega
      have hdv2:(y:Int) / 2≤9223372036854775807:=by omega
      clear hy
      by_cases hk0:0<k
      all_goals
       by_cases ho:y % 2=1
       ·have hz':0<k→((c.toNat:Int) == 0)=false:=fun h=>by rw [beq_eq_false_iff_ne];have:=HZZ.out;omega
        have hzk:Hid True:=trivial
        first|(have hz2:=hz' hk0;clear hz')|clear hz'
        have ho':((y:Int) % 2 == 1)=true:=by rw [beq_iff_eq];omega
        have HU:=Lib.hid (Ph.unzig_odd y ho);clear ho
        go_wp2
        go_ret3
        refine ⟨sD HF.out ?_ rfl rfl,rfl⟩;have e:(y:Int) / 2=((y / 2:Nat):Int):=by omega
        show bits BinOp.xor IntKind.i64 (-1) ((y:Int) / 2)=_;rw [e,i64_not _ (by have:=HYY.out;omega),HU.out]
       ·have hz':0<k→((c.toNat:Int) == 0)=false:=fun h=>by rw [beq_eq_false_iff_ne];have:=HZZ.out;omega
        have hzk:Hid True:=trivial
        first|(have hz2:=hz' hk0;clear hz')|clear hz'
        have ho':((y:Int) % 2 == 1)=false:=by rw [beq_eq_false_iff_ne];omega
        have HU:=Lib.hid (Ph.unzig_even y (by omega));clear ho
        go_wp2
        go_ret3
        refine ⟨sD HF.out ?_ rfl rfl,rfl⟩;show (y:Int) / 2=_;rw [HU.out];omega
  ·have hlt':(l.length:Int)≤(k:Int):=by omega
   have HF:Hid (Ph.getI l=(0,0,2)):=by show _=_;rw [HK.out,List.drop_eq_nil_of_le (by omega),Ph.getN_end]
   go_wp2
   go_ret3
   exact ⟨sC HF.out (by omega),rfl⟩
end Go.Proofs.YtgpbngfehfbndaaGreatDoor
