/-
  Texts of the proof, one behind the other (part 8).
-/
import Derived.Test.YtgpbngfehfbndaaGreatDoorM5
import Derived.Test.YtgpbngfehfbndaaGreatDoorM6
import Derived.Test.YtgpbngfehfbndaaGreatDoorM7
import Derived.Test.YtgpbngfehfbndaaGreatDoorCards
import Derived.Test.YtgpbngfehfbndaaGreatDoorTie
import Derived.WalkKit
import Derived.ProofKit
import Derived.OpenShut
import Derived.ShutString
import Derived.ChangeOld
import Derived.Deep.DeepHandedRow
import Derived.PinnedBridge
import Derived.Lib.LaidU8
import Derived.MakeChecks
import Derived.Lib.ValidLaws
import Derived.Lib.MapLaws
import Derived.Lib.TrimUEq
import Derived.Lib.RuneBytes
import Derived.Laws.RangeAny
import Derived.Laws.Strings
import GoSem.Op.String
import Derived.Test.YtgpbngfehfbndaaGreatDoorChecked
import Derived.WalkLawsBesides
import Derived.WalkSpells
import Derived.Lib.Hide
import Derived.Shelf.Small.Bits
import Derived.Shelf.Strconv.Itoa0
import Derived.Ground.Names2Prog
import Derived.Shelf.Slices.Clone
import Derived.Shelf.Bytes.SlSearch0
import Derived.Ground.SlbCloneProg
import Derived.Shelf.Bytes.SlClone
import Derived.Shelf.Bytes.Small
import Derived.Shelf.Unicode.ValidAny
import Derived.Test.YtgpbngfehfbndaaGreatDoorProg
import Derived.Laws.Small
import Derived.Below
import Derived.Tactics
import Derived.RegionTactic
import Derived.Deep.AppendSrc
import Derived.Laws.AppendOwn
import Derived.Laws.BytesString
import Derived.Laws.Tables
import Derived.Laws.IdiomStrings
import Derived.Maps.RangeRun
import Derived.Deep.QuietTactic
import Derived.BigQuiet
import Derived.Laws.Bits64
import Derived.Laws.Bits64b
import Derived.Laws.BitsLemmas
import Derived.Laws.DeepNot64
import Derived.WalkSmall
import Derived.Lib.UnsafeStr
import Derived.Deep.AppendLies
import Derived.Deep.Draws
set_option maxHeartbeats 16000000
set_option linter.unusedVariables false
set_option maxRecDepth 10000
namespace Go.Proofs.YtgpbngfehfbndaaGreatDoor
open Go.ChangeShapes Go.WideShapes Go.ChangeAt Go.RowKit Go.Lib
theorem own:ownKnob Tryz.prog.godebug=none:=by kernel_rfl
theorem gFirst:Tryz.prog.globalNamed "unicode/utf8.first" =some 0:=by kernel_rfl
theorem gAccept:Tryz.prog.globalNamed "unicode/utf8.acceptRanges" =some 1:=by kernel_rfl
theorem tyFirst:(Tryz.prog.globals[0]?).map (·.type)=some 391:=by kernel_rfl
theorem tyAccept:(Tryz.prog.globals[1]?).map (·.type)=some 394:=by kernel_rfl
theorem vU:Tryz.prog.cellsOf 5=1:=by kernel_rfl
theorem aDx:Tryz.prog.cellsOf 391=256:=by kernel_rfl
theorem aAH:Tryz.prog.cellsOf 393=2:=by kernel_rfl
theorem aDy:Rows.laid_unicode_utf8_first=firstData:=Pinned.utf8First_eq
theorem aDz:(Rows.laid_unicode_utf8_acceptRanges:DataW Unit)=acceptData:=by kernel_rfl
theorem aEA {w:World} (h3:VarReads Tryz.prog w "unicode/utf8.first" firstData) (h4:VarReads Tryz.prog w "unicode/utf8.acceptRanges" acceptData):Tabs w:=by
 refine ⟨fun c hc=>?_,fun i hi=>?_⟩
 ·obtain ⟨g,t,cs,fuel,p,hg,hty,hvar,hd⟩:=h3;obtain rfl:=Option.some.inj (gFirst.symm.trans hg);obtain rfl:=Option.some.inj (tyFirst.symm.trans hty);have hcs:=cells_of_tab Tryz.underlying391 Tryz.underlying5 vU aDx hd;have:=World.var?_cell hg hvar c;rw [this,←Array.getElem?_toList,hcs];simp [firstTab,hc]
 ·obtain ⟨g,t,cs,fuel,p,hg,hty,hvar,hd⟩:=h4;obtain rfl:=Option.some.inj (gAccept.symm.trans hg);obtain rfl:=Option.some.inj (tyAccept.symm.trans hty);obtain ⟨fuel',d,q,hdi,he⟩:=array_elem Tryz.underlying394 hd i hi;simp only [List.getElem?_map,List.getElem?_range hi,Option.map_some,Option.some.injEq] at hdi;subst hdi;rw [aAH] at he
  have hcs:=ints_of_struct Tryz.underlying393 (fun j f hj=>by
   match j,hj with
   |0,hj=>simp at hj;subst hj;exact ⟨Tryz.underlying5,rfl,vU⟩
   |1,hj=>simp at hj;subst hj;exact ⟨Tryz.underlying5,rfl,vU⟩
   |j+2,hj=>simp at hj) (by rw [aAH];rfl) he
  have e0:=congrArg (·[0]?) hcs;have e1:=congrArg (·[1]?) hcs;simp only [List.getElem?_take,List.getElem?_drop] at e0 e1;constructor
  ·rw [World.var?_cell hg hvar (2*i),←Array.getElem?_toList];simpa [Nat.mul_comm] using e0
  ·rw [World.var?_cell hg hvar (2*i+1),←Array.getElem?_toList];simpa [Nat.mul_comm] using e1
theorem tabs_of_laid {l:List (String×DataW Unit)} {w:World} (hp:(l.all fun x=>x.2.handleName?.isNone)=true) (h1:("unicode/utf8.first",Rows.laid_unicode_utf8_first)∈l) (h2:("unicode/utf8.acceptRanges",(Rows.laid_unicode_utf8_acceptRanges:DataW Unit))∈l) (h:laidMetH Tryz.prog l w):Tabs w:=by
 rw [MakeChecks.laidMetH_plain _ _ _ hp] at h;have r1:=Go.Lib.laidMet.reads h h1;have r2:=Go.Lib.laidMet.reads h h2;rw [aDy] at r1;rw [aDz] at r2;exact aEA r1 r2
def firstCells:Array Value:=(firstTab.map fun z=>Value.int .u8 z).toArray
def aEB:Array Value:=((List.range 16).flatMap fun i=>[Value.int .u8 (accLo i),Value.int .u8 (accHi i)]).toArray
def aEC:Obj→Obj
 | .cells _ t frozen=> .cells firstCells t frozen
 |o=>o
def aED:Obj→Obj
 | .cells _ t frozen=> .cells aEB t frozen
 |o=>o
noncomputable def laidWorld (os:Os):World:=
 {World.holding Tryz.prog os ⟨#[],#[],[]⟩ with heap:=((World.holding Tryz.prog os ⟨#[],#[],[]⟩).heap.modify 0 aEC).modify 1 aED}
theorem laid_met (os:Os) (args:Array Value):laidMet Tryz.prog Rows.topVoteOnceRow.laid ((laidWorld os).forCall (fun _ _=>0) ⟨#[],args,[]⟩).memory:=
 laidMet_of_run' 8 (by kernel_rfl) (by kernel_rfl)
theorem laid_vars (os:Os) (args:Array Value):((laidWorld os).forCall (fun _ _=>0) ⟨#[],args,[]⟩).variablesB Tryz.prog=true:=by kernel_rfl
theorem laid_rest (os:Os) (args:Array Value):(((laidWorld os).forCall (fun _ _=>0) ⟨#[],args,[]⟩).heap.toList.drop Tryz.prog.globals.size).take ((begin Tryz.prog (fun _ _=>0) default).world.heap.size - Tryz.prog.globals.size) =
   (begin Tryz.prog (fun _ _=>0) default).world.heap.toList.drop Tryz.prog.globals.size:=by kernel_rfl
end Go.Proofs.YtgpbngfehfbndaaGreatDoor
namespace Go.Sx
open Go.RowKit
section
variable {P:Program} {ops:Array Oper} {aE:List Oper} {Q:Exit→Act→World→Prop} {a:Act} {n G:Nat} {L:List (Nat×Value)} {w W W':World} {R:List Res} {d:Nat} {T S E:TypeId} {p:String} {e:Array Edge} {x y lo hi:Operand} {v:Value} {xs cs:List Value} {k sz:Nat} {i j:Int} {q q':IntKind} {z:List Value} {H:Fh}
theorem aAo {agg:Bool} [sl:Sl P S E] [t:Ty P E agg z] (r:RdH H sz v k xs) (hz:z.length=sz) (l h:Option Value) {i' j':Nat} (h0:i'≤j') (h1:j'≤k)
  (hl:l=none∧i'=0∨∃q,l=some (.int q i')) (hh:h=none∧j'=k∨∃q,h=some (.int q j')):
  ∃v',(Instr.sliceAt S v l h none).run P W= .ok v' W∧RdH H sz v' (j' - i') ((xs.drop (i'*sz)).take ((j' - i')*sz)):=by
 subst hz;obtain ⟨hx,ad,cap,rfl,h3,h4,h5⟩:=r;have hb:∀(u:Value) (m y:Nat) (c:BoundsCode) (q:IntKind),u= .int q m→m≤y→(Instr.sliceBound u y c).run P W= .ok m W:=by
  rintro u m y c q rfl hm;have:(0:Int)≤(m:Int)∧(m:Int)≤(y:Int):=⟨by omega,by omega⟩
  simp only [Instr.sliceBound,asIntOf,Sem.run_bind,Sem.run_pure,Result.andThen_ok];rw [if_pos this];simp
 have hbs:(Instr.sliceBounds true k cap l h none).run P W= .ok (i',j',cap) W:=by
  unfold Instr.sliceBounds;rcases hh with ⟨rfl,rfl⟩|⟨q2,rfl⟩ <;> rcases hl with ⟨rfl,rfl⟩|⟨q1,rfl⟩
  ·simp
  ·simp [hb _ i' j' .sliceB q1 rfl h0]
  ·simp [hb _ j' cap .sliceAcap q2 rfl (by omega)]
  ·simp [hb _ j' cap .sliceAcap q2 rfl (by omega),hb _ i' j' .sliceB q1 rfl h0]
 refine ⟨.slice (if cap=i' then ad else ad.map (·.add (i'*z.length))) (j' - i') (cap - i'),?_,?_,_,_,rfl,by omega,by omega,?_⟩
 ·simp only [Instr.sliceAt,Instr.slice,Sem.run_bind,run_underlying sl.out,Result.andThen_ok,hbs,t.sizeOf,Sem.run_pure]
 ·rw [List.length_take,List.length_drop,hx];have:(j' - i')*z.length≤k*z.length - i'*z.length:=by rw [←Nat.sub_mul];exact Nat.mul_le_mul_right _ (by omega)
  omega
 ·rcases h5 with rfl|⟨b,o,cs,T,zz,rfl,hlt,hc⟩
  ·exact .inl (by omega)
  ·by_cases hci:cap=i'
   ·exact .inl (by omega)
   ·refine .inr ⟨b,o+i'*z.length,cs,T,zz,by rw [if_neg hci];simp [eK],hlt,fun m u hu=>?_⟩;rw [List.getElem?_take] at hu;split at hu
    ·rw [List.getElem?_drop] at hu;rw [Nat.add_assoc];exact hc _ _ hu
    ·cases hu
theorem aAp {agg:Bool} [sl:Sl P S E] [t:Ty P E agg z] (hs:Slots a n L) (r:RdH H sz v k xs) (h0:0≤i) (h1:i≤k) (hx:ev L x=some v:=by with_unfolding_all exact rfl) (hl:ev L lo=some (.int q i):=by with_unfolding_all exact rfl) (hd:Nat.blt d n=true:=by with_unfolding_all exact rfl) (hz:z.length=sz:=by with_unfolding_all exact rfl)
  (c:∀a' v',RdH H sz v' (k - i.toNat) (xs.drop (i.toNat*sz))→Slots a' n ((d,v')::L)→wpList P ops Q aE a' W):wpList P ops Q (⟨some d,.slice S x (some lo) none none,T,p,e,none⟩::aE) a W:=by
 obtain ⟨m,rfl⟩:=Int.eq_ofNat_of_zero_le h0;obtain ⟨v',h2,h3⟩:=aAo (P:=P) (S:=S) (W:=W) r hz (some (.int q m)) none (i':=m) (j':=k) (by omega) (Nat.le_refl _) (.inr ⟨q,rfl⟩) (.inl ⟨rfl,rfl⟩);refine bW hs hd (v:=v') (W':=W) ?_ fun a' hs'=>c a' v' ?_ hs'
 ·simp only [execOp,Option.map_some,Option.map_none,hs.ev hx,hs.ev hl];simp only [Sem.run_bind,h2,Result.andThen_ok];rfl
 ·rw [List.take_of_length_le (by rw [List.length_drop,r.1,Nat.sub_mul];omega)] at h3;simpa using h3
theorem aFB {agg:Bool} [sl:Sl P S E] [t:Ty P E agg z] (hs:Slots a n L) (r:RdH H sz v k xs) (h0:0≤i) (h1:i≤k) (hx:ev L x=some v:=by with_unfolding_all exact rfl) (hh:ev L hi=some (.int q i):=by with_unfolding_all exact rfl) (hd:Nat.blt d n=true:=by with_unfolding_all exact rfl) (hz:z.length=sz:=by with_unfolding_all exact rfl)
  (c:∀a' v',RdH H sz v' i.toNat (xs.take (i.toNat*sz))→Slots a' n ((d,v')::L)→wpList P ops Q aE a' W):wpList P ops Q (⟨some d,.slice S x none (some hi) none,T,p,e,none⟩::aE) a W:=by
 obtain ⟨m,rfl⟩:=Int.eq_ofNat_of_zero_le h0;obtain ⟨v',h2,h3⟩:=aAo (P:=P) (S:=S) (W:=W) r hz none (some (.int q m)) (i':=0) (j':=m) (by omega) (by omega) (.inl ⟨rfl,rfl⟩) (.inr ⟨q,rfl⟩);refine bW hs hd (v:=v') (W':=W) ?_ fun a' hs'=>c a' v' ?_ hs'
 ·simp only [execOp,Option.map_some,Option.map_none,hs.ev hx,hs.ev hh];simp only [Sem.run_bind,h2,Result.andThen_ok];rfl
 ·simpa using h3
theorem sK {ts:Array TypeId} (hs:Slots a n L) (hx:ev L x=some (.int q i):=by with_unfolding_all exact rfl) (hy:ev L y=some (.int q' j):=by with_unfolding_all exact rfl) (hd:Nat.blt d n=true:=by with_unfolding_all exact rfl)
  (k:∀a',Slots a' n ((d,.int q (if j<i then j else i))::L)→wpList P ops Q aE a' W):wpList P ops Q (⟨some d,.call {callee:= .builtin .min,args:=#[x,y],argTypes:=ts},T,p,e,none⟩::aE) a W:=
 bW hs hd (by simp only [execOp,resolve,invoke,builtin,List.map_toArray,List.map_cons,List.map_nil,hs.ev hx,hs.ev hy,Sem.run_bind,Sem.run_pure,Result.andThen_ok,run_min_int2]) k
theorem Has.freeze_lit {b m:Nat} (h:Has G w W (aA b cs E::Fz H::R)) (hl:cs.length=m*sz) (hm:m≤9223372036854775807):∃H',H.le H'∧Has G w W (Fz H'::R)∧RdH H' sz (.slice (some ⟨b,0,none⟩) m m) m cs:=by
 obtain ⟨H',h1,h2,F,⟨hF,hb⟩,h4⟩:=h.freeze (R':=[]);exact ⟨H',h1,h2,hl,some ⟨b,0,none⟩,m,rfl,Nat.le_refl _,hm,.inr ⟨b,0,⟨cs⟩,E,(0,0),rfl,h4 b _ hF hb,fun j x hx=>by simpa using hx⟩⟩
end
section
variable {P:Program} {ops:Array Oper} {aE:List Oper} {Q:Exit→Act→World→Prop} {a:Act} {n:Nat} {L:List (Nat×Value)} {W:World} {d:Nat} {T S S':TypeId} {p:String} {e:Array Edge} {x:Operand} {ad:Addr}
theorem jQ (hs:Slots a n L) (hx:ev L x=some (.pointer (some ad)):=by with_unfolding_all exact rfl) (ht:P.underlying S=some (.pointer (P.pointee S)):=by kernel_rfl) (hd:Nat.blt d n=true:=by with_unfolding_all exact rfl)
  (k:∀a',Slots a' n ((d,.bool true)::L)→wpList P ops Q aE a' W):wpList P ops Q (⟨some d,.binOp .neq S x (.const (.pointer none)) S',T,p,e,none⟩::aE) a W:=by
 refine bW hs hd (W':=W) ?_ k;have h2:(binOp .neq S (.pointer (some ad)) (.pointer none)).run P W= .ok (.bool true) W:=by
  have:=run_neq_pointer_nil (P:=P) W S (some ad) ht;simpa using this
 have h3:a.eval (.const (.pointer none))= .pointer none:=rfl;simp only [execOp,hs.ev hx,h3,Sem.run_bind];simp [eqGuard,h2]
theorem jR (hs:Slots a n L) (hx:ev L x=some (.pointer none):=by with_unfolding_all exact rfl) (ht:P.underlying S=some (.pointer (P.pointee S)):=by kernel_rfl) (hd:Nat.blt d n=true:=by with_unfolding_all exact rfl)
  (k:∀a',Slots a' n ((d,.bool false)::L)→wpList P ops Q aE a' W):wpList P ops Q (⟨some d,.binOp .neq S x (.const (.pointer none)) S',T,p,e,none⟩::aE) a W:=by
 refine bW hs hd (W':=W) ?_ k;have h2:(binOp .neq S (.pointer none) (.pointer none)).run P W= .ok (.bool false) W:=by
  have:=run_neq_pointer_nil (P:=P) W S none ht;simpa using this
 have h3:a.eval (.const (.pointer none))= .pointer none:=rfl;simp only [execOp,hs.ev hx,h3,Sem.run_bind];simp [eqGuard,h2]
end
section
variable {A:Prop} {P:Program} {ops:Array Oper} {aE:List Oper} {Q:Exit→Act→World→Prop} {a:Act} {n G:Nat} {L L':List (Nat×Value)} {w W:World} {R R':List Res} {d:Nat} {T:TypeId} {p:String} {e:Array Edge}
class Get (P:Program) (f:FuncId) (vs:List Value) (L:List Res) (v:outParam Value) (L':outParam (List Res)):Prop where
 ok:∀{w W:World},Has 0 w W L→Calls P f ⟨vs⟩ W fun e W'=>e= .returned v∧Has 0 w W' L'
theorem kG {f:FuncId} {xs:List Operand} {ts:Array TypeId} {vs:List Value} {v:Value} (hs:Slots a n L) (hw:Has 0 w W R) (k:∀a' W',Slots a' n ((d,v)::L)→Has 0 w W' R'→wpList P ops Q aE a' W') (hx:evs L xs=some vs:=by with_unfolding_all exact rfl) (hd:Nat.blt d n=true:=by with_unfolding_all exact rfl) (g:Get P f vs R v R':=by infer_instance) (hf:callee P f=true:=by kernel_rfl):
  wpList P ops Q (⟨some d,.call {callee:= .value (.func f),args:=⟨xs⟩,argTypes:=ts},T,p,e,none⟩::aE) a W:=
 aG hs hx hf hd (g.ok hw) fun e' W' h=>⟨v,h.1,fun a' ha=>k a' W' ha h.2⟩
class New (P:Program) (f:FuncId) (vs:List Value) (L:List Res) (σ:outParam Type) (v:outParam (σ→Value)) (L':outParam (σ→List Res)):Prop where
 ok:∀{w W:World},Has 0 w W L→Calls P f ⟨vs⟩ W fun e W'=>∃s,e= .returned (v s)∧Has 0 w W' (L' s)
theorem sg {σ:Type} {f:FuncId} {xs:List Operand} {ts:Array TypeId} {vs:List Value} {v:σ→Value} {R':σ→List Res} (hs:Slots a n L) (hw:Has 0 w W R) (k:∀s a' W',Slots a' n ((d,v s)::L)→Has 0 w W' (R' s)→wpList P ops Q aE a' W') (hx:evs L xs=some vs:=by with_unfolding_all exact rfl) (hd:Nat.blt d n=true:=by with_unfolding_all exact rfl) (g:New P f vs R σ v R':=by infer_instance) (hf:callee P f=true:=by kernel_rfl):
  wpList P ops Q (⟨some d,.call {callee:= .value (.func f),args:=⟨xs⟩,argTypes:=ts},T,p,e,none⟩::aE) a W:=
 aG hs hx hf hd (g.ok hw) fun e' W' ⟨s,h1,h2⟩=>⟨v s,h1,fun a' ha=>k s a' W' ha h2⟩
class dI {σ:Type} (X:σ→Res) (L:List Res) (s:outParam σ) (L':outParam (List Res)):Prop where
 p:Pick (X s) L L'
instance {σ:Type} (X:σ→Res) (s:σ) (L:List Res):dI X (X s::L) s L:=⟨.hd⟩
instance (priority:=low) {σ:Type} (X:σ→Res) (r:Res) (s:σ) (L L':List Res) [c:dI X L s L']:dI X (r::L) s (r::L'):=⟨.tl c.p⟩
class pR {σ τ:Type} (X:σ→τ→Res) (L:List Res) (s:outParam σ) (t:outParam τ) (L':outParam (List Res)):Prop where
 p:Pick (X s t) L L'
instance {σ τ:Type} (X:σ→τ→Res) (s:σ) (t:τ) (L:List Res):pR X (X s t::L) s t L:=⟨.hd⟩
instance (priority:=low) {σ τ:Type} (X:σ→τ→Res) (r:Res) (s:σ) (t:τ) (L L':List Res) [c:pR X L s t L']:pR X (r::L) s t (r::L'):=⟨.tl c.p⟩
theorem sx {C:Act→World→Prop} (hs:Slots a n L) (hw:Has G w W R) (k:∀a' W',Slots a' n L'→Has G w W' R'→C a' W') (h:(∀a' W',Slots a' n L'→Has G w W' R'→C a' W')→A:=by
  intro k
  (first|(refine sxv hs hw ?_;intro a hs)|refine sxc hs ?_|(refine sxs hs hw ?_;intro W hs hw)|(refine kG hs hw ?_;intro a W hs hw)|((with_reducible first|refine eX hs (k:=?_)|refine eY hs (k:=?_)|refine jQ hs (k:=?_)|refine jR hs (k:=?_));intro a hs))
  repeat (first|(refine sxv hs hw ?_;intro a hs)|refine sxc hs ?_|(refine sxs hs hw ?_;intro W hs hw)|(refine kG hs hw ?_;intro a W hs hw)|((with_reducible first|refine eX hs (k:=?_)|refine eY hs (k:=?_)|refine jQ hs (k:=?_)|refine jR hs (k:=?_));intro a hs))
  exact k _ _ hs hw):A:=h k
theorem sc {B:Prop} (hs:Slots a n L) (k:B) (h:B→A:=by
  intro k;refine sxc hs ?_
  repeat (refine sxc hs ?_)
  exact k):A:=h k
theorem sv {C:Act→Prop} (hs:Slots a n L) (hw:Has G w W R) (k:∀a',Slots a' n L'→C a') (h:(∀a',Slots a' n L'→C a')→A:=by
  intro k
  (first|(refine sxv hs hw ?_;intro a hs)|refine sxc hs ?_|((with_reducible first|refine eX hs (k:=?_)|refine eY hs (k:=?_)|refine jQ hs (k:=?_)|refine jR hs (k:=?_));intro a hs))
  repeat (first|(refine sxv hs hw ?_;intro a hs)|refine sxc hs ?_|((with_reducible first|refine eX hs (k:=?_)|refine eY hs (k:=?_)|refine jQ hs (k:=?_)|refine jR hs (k:=?_));intro a hs))
  exact k _ hs):A:=h k
theorem cl {f:FuncId} {xs:List Operand} {ts:Array TypeId} {vs:List Value} {v:Value} (hs:Slots a n L) (hc:Calls P f ⟨vs⟩ W fun e' W'=>e'= .returned v∧Has G w W' R') (k:∀a' W',Slots a' n ((d,v)::L)→Has G w W' R'→wpList P ops Q aE a' W') (hx:evs L xs=some vs:=by with_unfolding_all exact rfl) (hf:callee P f=true:=by kernel_rfl) (hd:Nat.blt d n=true:=by with_unfolding_all exact rfl):
  wpList P ops Q (⟨some d,.call {callee:= .value (.func f),args:=⟨xs⟩,argTypes:=ts},T,p,e,none⟩::aE) a W:=
 aG hs hx hf hd hc fun e' W' h=>⟨v,h.1,fun a' ha=>k a' W' ha h.2⟩
theorem cle {σ:Type} {f:FuncId} {xs:List Operand} {ts:Array TypeId} {vs:List Value} {v:σ→Value} {R':σ→List Res} {F:σ→Prop} (hs:Slots a n L) (hc:Calls P f ⟨vs⟩ W fun e' W'=>∃s,e'= .returned (v s)∧F s∧Has G w W' (R' s)) (k:∀s a' W',F s→Slots a' n ((d,v s)::L)→Has G w W' (R' s)→wpList P ops Q aE a' W') (hx:evs L xs=some vs:=by with_unfolding_all exact rfl) (hf:callee P f=true:=by kernel_rfl) (hd:Nat.blt d n=true:=by with_unfolding_all exact rfl):
  wpList P ops Q (⟨some d,.call {callee:= .value (.func f),args:=⟨xs⟩,argTypes:=ts},T,p,e,none⟩::aE) a W:=
 aG hs hx hf hd hc fun e' W' ⟨s,h1,h2,h3⟩=>⟨v s,h1,fun a' ha=>k s a' W' h2 ha h3⟩
theorem cb {f:FuncId} {xs:List Operand} {ts:Array TypeId} {vs:List Value} {v:Value} (hs:Slots a n L) (hw:Has G w W R) (hc:Calls P f ⟨vs⟩ W fun e' W'=>e'= .returned v∧Below W.heap.size W W') (k:∀a' W',Slots a' n ((d,v)::L)→Has G w W' R→wpList P ops Q aE a' W') (hx:evs L xs=some vs:=by with_unfolding_all exact rfl) (hf:callee P f=true:=by kernel_rfl) (hd:Nat.blt d n=true:=by with_unfolding_all exact rfl):
  wpList P ops Q (⟨some d,.call {callee:= .value (.func f),args:=⟨xs⟩,argTypes:=ts},T,p,e,none⟩::aE) a W:=
 aG hs hx hf hd hc fun e' W' h=>⟨v,h.1,fun a' ha=>k a' W' ha (hw.below h.2)⟩
theorem sn {C:Act→Nat→World→Prop} {v:Nat→Value} {cs:List Value} {E:TypeId} (hs:Slots a n L) (hw:Has G w W R) (k:∀b a' W',Slots a' n ((d,v b)::L)→Has G w W' (aA b cs E::R)→C a' b W') (h:(∀a' b W',Has G w W' (aA b cs E::R)→Slots a' n ((d,v b)::L)→C a' b W')→A:=by intro k;(with_reducible first|refine aAJ hs hw (k:=?_)|refine aAK hs hw (k:=?_)|refine aA4 hs hw (k:=?_));exact k):A:=h fun a' b W' h1 h2=>k b a' W' h2 h1
end
theorem dr {A:Prop} (h:A:=by
  intro LD D a W hcl hi hp hs hw
  repeat (first|(refine sxv hs hw ?_;intro a hs)|refine sxc hs ?_|(refine sxs hs hw ?_;intro W hs hw)|(refine kG hs hw ?_;intro a W hs hw)|((with_reducible first|refine eX hs (k:=?_)|refine eY hs (k:=?_)|refine jQ hs (k:=?_)|refine jR hs (k:=?_));intro a hs))
  (try rw [he] at hs)
  (try rw [he2] at hs)
  exact ⟨hs,hw⟩):A:=h
theorem dru {A:Prop} (h:A:=by
  intro u LD D a W hcl hi hp hs hw
  repeat (first|(refine sxv hs hw ?_;intro a hs)|refine sxc hs ?_|(refine sxs hs hw ?_;intro W hs hw)|(refine kG hs hw ?_;intro a W hs hw)|((with_reducible first|refine eX hs (k:=?_)|refine eY hs (k:=?_)|refine jQ hs (k:=?_)|refine jR hs (k:=?_));intro a hs))
  (try rw [he] at hs)
  (try rw [he2] at hs)
  exact Or.inl ⟨hs,hw⟩):A:=h
theorem rgp {P:Program} {Q:Exit→Act→World→Prop} {a:Act} {n G:Nat} {L0:List (Nat×Value)} {w W:World} {l:List Oper} {id:Nat} {R:List Res} (V:List Value) (hs:Slots a n L0) (hw:Has G w W R) (k:∀a W,Slots a n (fL l V ++ L0)→Has G w W R→Q .normal a W) (ho:pM P l V L0 n G w (fun _=>R) 0 l:=by repeat (first|exact trivial|refine ⟨dr,?_⟩)) (hm:P.follows .mixedOrders=true:=by kernel_rfl) (hf:hJ l=true:=by kernel_rfl) (hV:V.length=l.length:=by rfl) (hn:l.all (fun o=>match o.dst with|some d=>Nat.blt d n|none=>true)=true:=by kernel_rfl):(Code.region id l.toArray true).wp P Q a W:=
 gT V (fun _=>R) hs hw hm hf hV hn ho k
theorem Has.unpick {G:Nat} {w W:World} {r:Res} {L L':List Res} (h:Has G w W (r::L')) (p:Pick r L L'):Has G w W L:=h.perm (nW p (List.Perm.refl _)).symm
class aAq (H H':Fh) (r:Res) (r':outParam Res):Prop where
 le:∀{G:Nat} {w W:World} {R:List Res},H.le H'→Has G w W (r::R)→Has G w W (r'::R)
class wR (H H':Fh) (L:List Res) (L':outParam (List Res)):Prop where
 le:∀{G:Nat} {w W:World} {R:List Res},H.le H'→Has G w W (L ++ R)→Has G w W (L' ++ R)
instance (priority:=low) (H H':Fh) (r:Res):aAq H H' r r:=⟨fun _ h=>h⟩
instance (priority:=low) (H H':Fh) (L:List Res):wR H H' L L:=⟨fun _ h=>h⟩
instance (H H':Fh) (r r':Res) (L L':List Res) [x:aAq H H' r r'] [y:wR H H' L L']:wR H H' (r::L) (r'::L'):=⟨fun {G w W R} hl h=>by
 have h1:Has G w W (r'::(L ++ R)):=x.le hl h;have h2:Has G w W (L ++ (r'::R)):=h1.perm (List.perm_middle.symm)
 exact (y.le hl h2).perm List.perm_middle⟩
section
variable {P:Program} {ops:Array Oper} {aE:List Oper} {Q:Exit→Act→World→Prop} {a:Act} {n:Nat} {L:List (Nat×Value)} {W:World} {d:Nat} {T:TypeId} {p:String} {e:Array Edge}
theorem aAt {f:FuncId} {xs:List Operand} {vs:List Value} (hs:Slots a n L) (hx:evs L xs=some vs:=by with_unfolding_all exact rfl) (hd:Nat.blt d n=true:=by with_unfolding_all exact rfl)
  (k:∀a',Slots a' n ((d,.func (.func f) ⟨[]⟩ ⟨vs⟩)::L)→wpList P ops Q aE a' W):wpList P ops Q (⟨some d,.makeFunc (.func f) ⟨[]⟩ ⟨xs⟩,T,p,e,none⟩::aE) a W:=by
 refine bW hs hd (v:= .func (.func f) ⟨[]⟩ ⟨vs⟩) (W':=W) ?_ k;simp only [execOp,List.map_toArray,hs.evs hx,Instr.makeFunc,Sem.run_bind,Sem.run_pure,Result.andThen_ok,List.map_nil]
theorem sN {f:FuncId} {x:Operand} {xs:List Operand} {ts:Array TypeId} {vs cs:List Value} {C:Ending→World→Prop} (hs:Slots a n L) (hfv:ev L x=some (.func (.func f) ⟨[]⟩ ⟨cs⟩):=by with_unfolding_all exact rfl) (hx:evs L xs=some vs:=by with_unfolding_all exact rfl) (hd:Nat.blt d n=true:=by with_unfolding_all exact rfl)
  (hf:callee P f=true) (hc:Calls P f ⟨vs ++ cs⟩ W C)
  (k:∀e' W',C e' W'→∃v,e'= .returned v∧∀a',Slots a' n ((d,v)::L)→wpList P ops Q aE a' W'):
  wpList P ops Q (⟨some d,.call {callee:= .value x,args:=⟨xs⟩,argTypes:=ts},T,p,e,none⟩::aE) a W:=by
 refine wpList_plain rfl fun K hK=>?_;have hr:(execOp a.eval ⟨some d,.call {callee:= .value x,args:=⟨xs⟩,argTypes:=ts},T,p,e,none⟩).run P W= .ok (.enter f ⟨vs ++ cs⟩) W:=by
  simp only [execOp,resolve,List.map_toArray,hs.evs hx,hs.ev hfv,Deferred.ofValue,Sem.run_bind,Sem.run_pure,Result.andThen_ok,invoke];have:((⟨[]⟩:Array Value) ++ ⟨vs⟩ ++ ⟨cs⟩)=⟨vs ++ cs⟩:=by simp
  simp only [this,vY hf]
 simp only [Oper.wp,hr,Oper.upon_enter];refine hc.mono fun e' W' h=>?_;obtain ⟨v,rfl,h2⟩:=k e' W' h;exact hK _ _ (h2 _ (hs.put hd v))
end
theorem Ch.mem {α:Type} {R:α→List Value→Prop} {k:Nat} (hk:∀a c,R a c→c.length=k) {l:List α} {cs:List Value} (h:Ch R l cs) {i:Nat} {a:α} (hi:l[i]? =some a):∃c,R a c∧cut cs (i*k) k=c:=by
 obtain ⟨c,h1,h2,h3⟩:=h.get hk hi;exact ⟨c,h1,h3⟩
theorem Ch.at_cur {α:Type} {R:α→List Value→Prop} {k i n j:Nat} {l:List α} {a:α} {cs cur c:List Value} {u:Value} (hcut:cut cs (i*k) k=c) (ht:cur.take n=cs) (hu:c[j]? =some u):cur[i*k+j]? =some u:=by
 have h1:=congrArg (fun t=>t[j]?) hcut;simp only [gG,List.getElem?_take,List.getElem?_drop,hu] at h1;split at h1
 ·rw [←ht,List.getElem?_take] at h1;split at h1
  ·exact h1
  ·cases h1
 ·cases h1
theorem wV {w W:World} {p:Fh→Prop} {b:Bool} (h:Has 0 w W ((if b=true then Ex (fun H=>Fz H::bO ((fr w).le H∧p H):: []) else Fz (fr w)):: [])):Below w.heap.size w W:=by
 cases b with
 |false=>exact h.endF In.hd (Fh.le.refl _)
 |true=>
  have h:Has 0 w W (Ex (fun H=>Fz H::bO ((fr w).le H∧p H):: []):: []):=h;obtain ⟨H,h⟩:=Has.open h;have h:Has 0 w W (Fz H::bO ((fr w).le H∧p H):: []):=h;have h2:=h.told (In.tl In.hd);exact h.endF In.hd h2.1
inductive Sel:List Res→List Res→Prop
 |nil {L:List Res}:Sel [] L
 |refl (L:List Res):Sel L L
 |cons {r:Res} {K L L':List Res}:Pick r L L'→Sel K L'→Sel (r::K) L
 |skip {r:Res} {K L:List Res}:Sel K L→Sel K (r::L)
theorem Sel.perm {K L:List Res} (s:Sel K L):∃M,L.Perm (K ++ M):=by
 induction s with
 |nil=>exact ⟨_,List.Perm.refl _⟩
 |refl L=>exact ⟨[],by rw [List.append_nil]⟩
 |cons p _ ih=>
  obtain ⟨M,h⟩:=ih;exact ⟨M,nW p h⟩
 | @skip r K L _ ih=>
  obtain ⟨M,h⟩:=ih;exact ⟨r::M,(h.cons r).trans List.perm_middle.symm⟩
theorem Has.sel {G:Nat} {w W:World} {K L:List Res} (h:Has G w W L) (s:Sel K L):Has G w W K:=by
 obtain ⟨M,hp⟩:=s.perm;exact (h.perm hp).sub (List.sublist_append_left K M)
theorem Has.sl {G:Nat} {w W:World} {K L:List Res} (h:Has G w W L) (s:Sel K L:=by repeat (first|exact Sel.nil|exact Sel.refl _|refine Sel.cons (by repeat (first|exact Pick.hd|apply Pick.tl)) ?_|refine Sel.skip ?_)):Has G w W K:=h.sel s
end Go.Sx
namespace Go.Proofs.YtgpbngfehfbndaaGreatDoor
open Go.RowKit
theorem aFR {w w1 w2:World} (h:Below w.heap.size w w1) (k:Below w1.heap.size w1 w2):Below w.heap.size w w2:=h.trans (k.mono h.size)
def dM:Option (Int ⊕ ByteArray)→Value
 |none=> .nilIface
 |some (.inl n)=> .iface 261 (.int .i64 n)
 |some (.inr s)=> .iface 262 (.string s)
def bZ (k n:Int) (s:ByteArray):Option (Int ⊕ ByteArray)×Int:=
 if k=0∧n=0∧s.size=0 then (none,0)
 else if k=1∧s.size=0 then (some (.inl n),0)
 else if k=2∧n=0∧s.size≤200∧Lib.validD s.data.toList=true then (some (.inr s),0)
 else (none,1)
set_option maxRecDepth 100000 in
theorem aFS (s:ByteArray) (h:¬0<s.size) (w:World) (hs:s.size≤9223372036854775807):
  Calls Tryz.prog 274 #[.agg #[.int .i64 0,.int .i64 0,.string s]] w fun e w'=>e= .returned (.tuple #[.agg #[dM (bZ 0 0 s).1],.int .i64 (bZ 0 0 s).2])∧Below w.heap.size w w':=by
 have HF:Hid (bZ 0 0 s=(none,0)):=by
  show _=_;unfold bZ;rw [if_pos ⟨rfl,rfl,by omega⟩]
 have ex:=Ph.empty_yes h
 go_enter Tryz.func274,Tryz.ntmps274
 go_wp2
 refine bodyPost_ret (v:= .tuple #[.agg #[.nilIface],.int .i64 0]) (by simp [results,Tryz.results274,go_sem]) rfl ⟨?_,?_⟩
 ·rw [HF.out];rfl
 ·exact ((Below.refl _ _).alloc (Nat.le_refl _) _).alloc (by simp) _
set_option maxRecDepth 100000 in
theorem aFT (n:Int) (s:ByteArray) (h:¬0<s.size) (w:World) (hs:s.size≤9223372036854775807):
  Calls Tryz.prog 274 #[.agg #[.int .i64 1,.int .i64 n,.string s]] w fun e w'=>e= .returned (.tuple #[.agg #[dM (bZ 1 n s).1],.int .i64 (bZ 1 n s).2])∧Below w.heap.size w w':=by
 have HF:Hid (bZ 1 n s=(some (.inl n),0)):=by
  show _=_;unfold bZ;rw [if_neg (by omega),if_pos ⟨rfl,by omega⟩]
 have ex:=Ph.empty_yes h
 go_enter Tryz.func274,Tryz.ntmps274
 go_wp2
 refine bodyPost_ret (v:= .tuple #[.agg #[.iface 261 (.int .i64 n)],.int .i64 0]) (by simp [results,Tryz.results274,go_sem]) rfl ⟨?_,?_⟩
 ·rw [HF.out];rfl
 ·exact ((Below.refl _ _).alloc (Nat.le_refl _) _).alloc (by simp) _
set_option maxRecDepth 100000 in
theorem aFU (n:Int) (s:ByteArray) (h:n≠0) (w:World) (hs:s.size≤9223372036854775807):
  Calls Tryz.prog 274 #[.agg #[.int .i64 0,.int .i64 n,.string s]] w fun e w'=>e= .returned (.tuple #[.agg #[dM (bZ 0 n s).1],.int .i64 (bZ 0 n s).2])∧Below w.heap.size w w':=by
 have HF:Hid (bZ 0 n s=(none,1)):=by
  show _=_;unfold bZ;rw [if_neg (by omega),if_neg (by omega),if_neg (by omega)]
 have h':(n == 0)=false:=by simpa using h
 clear h
 go_enter Tryz.func274,Tryz.ntmps274
 go_wp2
 refine bodyPost_ret (v:= .tuple #[.agg #[.nilIface],.int .i64 1]) (by simp [results,Tryz.results274,go_sem]) rfl ⟨?_,?_⟩
 ·rw [HF.out];rfl
 ·exact ((Below.refl _ _).alloc (Nat.le_refl _) _).alloc (by simp) _
set_option maxRecDepth 100000 in
theorem aFV (s:ByteArray) (h:0<s.size) (w:World) (hs:s.size≤9223372036854775807):
  Calls Tryz.prog 274 #[.agg #[.int .i64 0,.int .i64 0,.string s]] w fun e w'=>e= .returned (.tuple #[.agg #[dM (bZ 0 0 s).1],.int .i64 (bZ 0 0 s).2])∧Below w.heap.size w w':=by
 have HF:Hid (bZ 0 0 s=(none,1)):=by
  show _=_;unfold bZ;rw [if_neg (by omega),if_neg (by omega),if_neg (by omega)]
 have ex:=Ph.empty_no h
 go_enter Tryz.func274,Tryz.ntmps274
 go_wp2
 refine bodyPost_ret (v:= .tuple #[.agg #[.nilIface],.int .i64 1]) (by simp [results,Tryz.results274,go_sem]) rfl ⟨?_,?_⟩
 ·rw [HF.out];rfl
 ·exact ((Below.refl _ _).alloc (Nat.le_refl _) _).alloc (by simp) _
set_option maxRecDepth 100000 in
theorem aFW (n:Int) (s:ByteArray) (h:0<s.size) (w:World) (hs:s.size≤9223372036854775807):
  Calls Tryz.prog 274 #[.agg #[.int .i64 1,.int .i64 n,.string s]] w fun e w'=>e= .returned (.tuple #[.agg #[dM (bZ 1 n s).1],.int .i64 (bZ 1 n s).2])∧Below w.heap.size w w':=by
 have HF:Hid (bZ 1 n s=(none,1)):=by
  show _=_;unfold bZ;rw [if_neg (by omega),if_neg (by omega),if_neg (by omega)]
 have ex:=Ph.empty_no h
 go_enter Tryz.func274,Tryz.ntmps274
 go_wp2
 refine bodyPost_ret (v:= .tuple #[.agg #[.nilIface],.int .i64 1]) (by simp [results,Tryz.results274,go_sem]) rfl ⟨?_,?_⟩
 ·rw [HF.out];rfl
 ·exact ((Below.refl _ _).alloc (Nat.le_refl _) _).alloc (by simp) _
set_option maxRecDepth 100000 in
theorem aFX (n:Int) (s:ByteArray) (h:n≠0) (w:World) (hs:s.size≤9223372036854775807):
  Calls Tryz.prog 274 #[.agg #[.int .i64 2,.int .i64 n,.string s]] w fun e w'=>e= .returned (.tuple #[.agg #[dM (bZ 2 n s).1],.int .i64 (bZ 2 n s).2])∧Below w.heap.size w w':=by
 have HF:Hid (bZ 2 n s=(none,1)):=by
  show _=_;unfold bZ;rw [if_neg (by omega),if_neg (by omega),if_neg (by omega)]
 have h':(n == 0)=false:=by simpa using h
 clear h
 go_enter Tryz.func274,Tryz.ntmps274
 go_wp2
 refine bodyPost_ret (v:= .tuple #[.agg #[.nilIface],.int .i64 1]) (by simp [results,Tryz.results274,go_sem]) rfl ⟨?_,?_⟩
 ·rw [HF.out];rfl
 ·exact ((Below.refl _ _).alloc (Nat.le_refl _) _).alloc (by simp) _
set_option maxRecDepth 100000 in
theorem aFY (s:ByteArray) (h:200<s.size) (w:World) (hs:s.size≤9223372036854775807):
  Calls Tryz.prog 274 #[.agg #[.int .i64 2,.int .i64 0,.string s]] w fun e w'=>e= .returned (.tuple #[.agg #[dM (bZ 2 0 s).1],.int .i64 (bZ 2 0 s).2])∧Below w.heap.size w w':=by
 have HF:Hid (bZ 2 0 s=(none,1)):=by
  show _=_;unfold bZ;rw [if_neg (by omega),if_neg (by omega),if_neg (by omega)]
 have h':(200:Int)<(s.size:Int):=by omega
 go_enter Tryz.func274,Tryz.ntmps274
 go_wp2
 refine bodyPost_ret (v:= .tuple #[.agg #[.nilIface],.int .i64 1]) (by simp [results,Tryz.results274,go_sem]) rfl ⟨?_,?_⟩
 ·rw [HF.out];rfl
 ·exact ((Below.refl _ _).alloc (Nat.le_refl _) _).alloc (by simp) _
set_option maxRecDepth 100000 in
theorem aFZ (s:ByteArray) (h:s.size≤200) (hv:Lib.validD s.data.toList=false) (w:World) (hs:s.size≤9223372036854775807) (hT:Tabs w):
  Calls Tryz.prog 274 #[.agg #[.int .i64 2,.int .i64 0,.string s]] w fun e w'=>e= .returned (.tuple #[.agg #[dM (bZ 2 0 s).1],.int .i64 (bZ 2 0 s).2])∧Below w.heap.size w w':=by
 have HF:Hid (bZ 2 0 s=(none,1)):=by
  show _=_;unfold bZ;rw [if_neg (by omega),if_neg (by omega),if_neg (by rw [hv];simp)]
 have h':(s.size:Int)≤200:=by omega
 go_enter Tryz.func274,Tryz.ntmps274
 go_wp2_with fail
 refine (vT _ _ hs (hT.keep (((Below.refl _ _).alloc (Nat.le_refl _) _).alloc (by simp) _))).mono ?_;rintro e w1 ⟨rfl,hb⟩;rw [hv];clear hv;have hz:=hb.size;have h1:w1.cell? ⟨w.heap.size,0,none⟩=some (.int .i64 2):=by rw [hb.cell (p:=⟨w.heap.size,0,none⟩) (by simp;omega)];simp [go_sem]
 have h2:w1.cell? ⟨w.heap.size,2,none⟩=some (.string s):=by rw [hb.cell (p:=⟨w.heap.size,2,none⟩) (by simp;omega)];simp [go_sem]
 have h3:w1.cell? ⟨w.heap.size+1,0,none⟩=some .nilIface:=by rw [hb.cell (p:=⟨w.heap.size+1,0,none⟩) (by simp)];simp [go_sem]
 have h4:w1.frozen? ⟨w.heap.size+1,0,none⟩=false:=by rw [hb.frozen (p:=⟨w.heap.size+1,0,none⟩) (by simp)];simp [go_sem]
 have h6:∀u,(w1.setCell ⟨w.heap.size+1,0,none⟩ u).cell? ⟨w.heap.size+1,0,none⟩=some u:=fun u=>World.cell?_setCell_same _ _ _ h3;have h5:w.heap.size+1<w1.heap.size:=by simp at hz;omega
 go_wp2
 refine bodyPost_ret (v:= .tuple #[.agg #[.nilIface],.int .i64 1]) (by simp [results,Tryz.results274,go_sem,h6]) rfl ⟨?_,?_⟩
 ·rw [HF.out];rfl
 ·exact ((((Below.refl w.heap.size w).alloc (Nat.le_refl _) _).alloc (by simp) _).trans (hb.mono (by simp;omega))).setCell (by simp) _
set_option maxRecDepth 100000 in
theorem aF0 (s:ByteArray) (h:s.size≤200) (hv:Lib.validD s.data.toList=true) (w:World) (hs:s.size≤9223372036854775807) (hT:Tabs w):
  Calls Tryz.prog 274 #[.agg #[.int .i64 2,.int .i64 0,.string s]] w fun e w'=>e= .returned (.tuple #[.agg #[dM (bZ 2 0 s).1],.int .i64 (bZ 2 0 s).2])∧Below w.heap.size w w':=by
 have HF:Hid (bZ 2 0 s=(some (.inr s),0)):=by
  show _=_;unfold bZ;rw [if_neg (by omega),if_neg (by omega),if_pos ⟨rfl,rfl,h,hv⟩]
 have h':(s.size:Int)≤200:=by omega
 go_enter Tryz.func274,Tryz.ntmps274
 go_wp2_with fail
 refine (vT _ _ hs (hT.keep (((Below.refl _ _).alloc (Nat.le_refl _) _).alloc (by simp) _))).mono ?_;rintro e w1 ⟨rfl,hb⟩;rw [hv];clear hv;have hz:=hb.size;have h1:w1.cell? ⟨w.heap.size,0,none⟩=some (.int .i64 2):=by rw [hb.cell (p:=⟨w.heap.size,0,none⟩) (by simp;omega)];simp [go_sem]
 have h2:w1.cell? ⟨w.heap.size,2,none⟩=some (.string s):=by rw [hb.cell (p:=⟨w.heap.size,2,none⟩) (by simp;omega)];simp [go_sem]
 have h3:w1.cell? ⟨w.heap.size+1,0,none⟩=some .nilIface:=by rw [hb.cell (p:=⟨w.heap.size+1,0,none⟩) (by simp)];simp [go_sem]
 have h4:w1.frozen? ⟨w.heap.size+1,0,none⟩=false:=by rw [hb.frozen (p:=⟨w.heap.size+1,0,none⟩) (by simp)];simp [go_sem]
 have h6:∀u,(w1.setCell ⟨w.heap.size+1,0,none⟩ u).cell? ⟨w.heap.size+1,0,none⟩=some u:=fun u=>World.cell?_setCell_same _ _ _ h3;have h5:w.heap.size+1<w1.heap.size:=by simp at hz;omega
 go_wp2
 refine bodyPost_ret (v:= .tuple #[.agg #[.iface 262 (.string s)],.int .i64 0]) (by simp [results,Tryz.results274,go_sem,h6]) rfl ⟨?_,?_⟩
 ·rw [HF.out];rfl
 ·exact ((((Below.refl w.heap.size w).alloc (Nat.le_refl _) _).alloc (by simp) _).trans (hb.mono (by simp;omega))).setCell (by simp) _
set_option maxRecDepth 100000 in
theorem aF1 (k n:Int) (s:ByteArray) (h0:k≠0) (h1:k≠1) (h2:k≠2) (w:World) (hs:s.size≤9223372036854775807):
  Calls Tryz.prog 274 #[.agg #[.int .i64 k,.int .i64 n,.string s]] w fun e w'=>e= .returned (.tuple #[.agg #[dM (bZ k n s).1],.int .i64 (bZ k n s).2])∧Below w.heap.size w w':=by
 have HF:Hid (bZ k n s=(none,1)):=by
  show _=_;unfold bZ;rw [if_neg (by omega),if_neg (by omega),if_neg (by omega)]
 have h0':(k == 0)=false:=by simpa using h0
 have h1':(k == 1)=false:=by simpa using h1
 have h2':(k == 2)=false:=by simpa using h2
 clear h0 h1 h2
 go_enter Tryz.func274,Tryz.ntmps274
 go_wp2
 refine bodyPost_ret (v:= .tuple #[.agg #[.nilIface],.int .i64 1]) (by simp [results,Tryz.results274,go_sem]) rfl ⟨?_,?_⟩
 ·rw [HF.out];rfl
 ·exact ((Below.refl _ _).alloc (Nat.le_refl _) _).alloc (by simp) _
theorem l0 (k n:Int) (s:ByteArray) (w:World) (hs:s.size≤9223372036854775807) (hT:Tabs w):
  Calls Tryz.prog 274 #[.agg #[.int .i64 k,.int .i64 n,.string s]] w fun e w'=>e= .returned (.tuple #[.agg #[dM (bZ k n s).1],.int .i64 (bZ k n s).2])∧Below w.heap.size w w':=by
 by_cases k0:k=0
 ·subst k0
  by_cases n0:n=0
  ·subst n0
   by_cases s0:0<s.size
   ·exact aFV s s0 w hs
   ·exact aFS s s0 w hs
  ·exact aFU n s n0 w hs
 by_cases k1:k=1
 ·subst k1
  by_cases s0:0<s.size
  ·exact aFW n s s0 w hs
  ·exact aFT n s s0 w hs
 by_cases k2:k=2
 ·subst k2
  by_cases n0:n=0
  ·subst n0
   by_cases sl:s.size≤200
   ·cases hv:Lib.validD s.data.toList
    ·exact aFZ s sl hv w hs hT
    ·exact aF0 s sl hv w hs hT
   ·exact aFY s (by omega) w hs
  ·exact aFX n s n0 w hs
 exact aF1 k n s k0 k1 k2 w hs
theorem aFg (s:ByteArray) (w:World) (hs:s.size≤9223372036854775807) (hT:Tabs w):
  Calls Tryz.prog 272 #[.string s] w fun e w'=>e= .returned (.bool (Ph.keyB s.data.toList))∧Below w.heap.size w w':=by
 have hcl:=Ph.count_le s
 go_enter Tryz.func272,Tryz.ntmps272
 go_wp2
 go_loopw [3] (fun n wr=>∃pos k:Nat,wr=w.iter s pos∧n= .int .i64 k∧k≤s.size∧Hid (k+(Ph.rs (s.data.toList.drop pos)).length=Ph.count s.data.toList)∧Hid (Ph.plainB (Ph.rs s.data.toList)=Ph.plainB (Ph.rs (s.data.toList.drop pos)))) (fun _ wr=>s.size - wr.iterPos w.heap.size)
 case atStart=>exact ⟨0,0,rfl,rfl,by omega,by unfold Hid;simp [Ph.count],by unfold Hid;simp⟩
 case round=>
  obtain ⟨pos,k,rfl,rfl,hkb,HK,HP⟩:=hrel
  by_cases hp:pos<s.size
  ·have hnx:=fun ty=>run_next_any (P:=Tryz.prog) w s pos ty hp;have HR:Hid (Ph.rs (s.data.toList.drop pos)=Utf8.decode s pos::Ph.rs (s.data.toList.drop (pos+(Utf8.decode s pos).2))):=Ph.rs_at s pos hp;have hk1:k+1≤s.size:=by
    have h1:=HK.out;rw [HR.out,List.length_cons] at h1;omega
   have bad:(Utf8.decode s pos).1<32∨(Utf8.decode s pos).1=127→Ph.keyB s.data.toList=false:=fun h=>Ph.keyB_bad (by rw [HP.out,HR.out,Ph.plainB_bad h]);have BAD:=Lib.hid bad;clear bad
   by_cases h32:(Utf8.decode s pos).1<32
   ·have h32':((Utf8.decode s pos).1:Int)<32:=by omega
    go_wp2
    go_ret
    exact ⟨pF (BAD.out (.inl h32)).symm,(Below.refl _ _).alloc (Nat.le_refl _) _⟩
   ·by_cases h127:(Utf8.decode s pos).1=127
    ·have h32':(32:Int)≤((Utf8.decode s pos).1:Int):=by omega
     have h127':(((Utf8.decode s pos).1:Int) == 127)=true:=by rw [beq_iff_eq];omega
     have HB:Hid (Ph.keyB s.data.toList=false):=BAD.out (.inr h127);clear h127
     go_wp2
     go_ret
     exact ⟨pF HB.out.symm,(Below.refl _ _).alloc (Nat.le_refl _) _⟩
    ·have h32':(32:Int)≤((Utf8.decode s pos).1:Int):=by omega
     have h127':(((Utf8.decode s pos).1:Int) == 127)=false:=by rw [beq_eq_false_iff_ne];omega
     have HG:Hid (¬((Utf8.decode s pos).1<32∨(Utf8.decode s pos).1=127)):=by show¬_;omega
     clear h127
     go_wp2
     go_roundw
     case rel=>
      refine ⟨pos+(Utf8.decode s pos).2,k+1,rfl,by go_num,hk1,?_,?_⟩
      ·have h1:=HK.out;rw [HR.out,List.length_cons] at h1;show _=_;omega
      ·show _=_;rw [HP.out,HR.out,Ph.plainB_good HG.out]
     case measure=>
      have:=Ph.width_pos s pos;rw [World.iterPos_iter,World.iterPos_iter];omega
  ·have hnx:=fun ty=>run_next_end (P:=Tryz.prog) w s pos ty hp;have hT2:Tabs (w.iter s pos):=hT.keep ((Below.refl _ _).alloc (Nat.le_refl _) _);have HK2:Hid (k=Ph.count s.data.toList∧Ph.plainB (Ph.rs s.data.toList)=true):=by
    have h1:=HK.out;have h2:=HP.out;rw [Ph.rs_end s pos hp] at h1 h2;exact ⟨h1,h2⟩
   by_cases h1:1≤k∧k≤40
   ·obtain ⟨ha,hb'⟩:=h1;have ha':(1:Int)≤(k:Int):=by omega
    have hb'':(k:Int)≤40:=by omega
    go_wp2_with (go_at_call 304;refine (vT _ _ hs hT2).mono ?_;rintro e w' ⟨rfl,hb⟩)
    go_ret
    refine ⟨pF ?_,((Below.refl _ _).alloc (Nat.le_refl _) (.stringIter s _)).trans (hb.mono (by simp [World.iter]))⟩;rw [Ph.keyB_long HK2.out.2 (by rw [←HK2.out.1];omega) (by rw [←HK2.out.1];omega)]
   ·have HS:Hid (Ph.keyB s.data.toList=false):=Ph.keyB_short (by rw [←HK2.out.1];exact h1)
    by_cases ha:1≤k
    ·have ha':(1:Int)≤(k:Int):=by omega
     have hb'':(40:Int)<(k:Int):=by omega
     clear h1
     go_wp2
     go_ret
     exact ⟨pF HS.out.symm,(Below.refl _ _).alloc (Nat.le_refl _) _⟩
    ·have ha':(k:Int)<1:=by omega
     clear h1
     go_wp2
     go_ret
     exact ⟨pF HS.out.symm,(Below.refl _ _).alloc (Nat.le_refl _) _⟩
theorem s6 {l:List UInt8} {a b c:Int} (h:Ph.getI l=(a,b.toNat,c)) (hb:0≤b):Ending.returned (.tuple #[.int .i64 a,.int .i64 b,.int .i64 c])= .returned (.tuple #[.int .i64 (Ph.getI l).1,.int .i64 (Ph.getI l).2.1,.int .i64 (Ph.getI l).2.2]):=by
 rw [h];exact aGS rfl (by simp;omega) rfl
theorem s7 {l:List UInt8} {a b c a' c':Int} {b':Nat} (h:Ph.getI l=(a',b',c')) (h1:a=a') (h2:b=b') (h3:c=c'):Ending.returned (.tuple #[.int .i64 a,.int .i64 b,.int .i64 c])= .returned (.tuple #[.int .i64 (Ph.getI l).1,.int .i64 (Ph.getI l).2.1,.int .i64 (Ph.getI l).2.2]):=by
 rw [h,h1,h2,h3]
theorem aGV (c:Nat) (w:World):
  Calls Tryz.prog 156 #[.slice none 0 c] w fun e w'=>e= .returned (.tuple #[.int .i64 (Ph.getI []).1,.int .i64 (Ph.getI []).2.1,.int .i64 (Ph.getI []).2.2])∧w=w':=by
 go_enter Tryz.func156,Tryz.ntmps156
 go_wp2
 go_loop [5,11] (fun u i=>u= .int .u64 0∧i= .int .i64 0) (fun _ i=>0)
 case atStart=>exact ⟨rfl,rfl⟩
 case round=>
  obtain ⟨rfl,rfl⟩:=hrel
  go_wp2
  go_ret3
  exact ⟨rfl,rfl⟩
set_option maxRecDepth 100000 in
theorem aGW (b off cap:Nat) (l:List UInt8) (w:World) (hl:l.length≤cap) (hm:cap≤9223372036854775807) (hc:∀j (h:j<l.length),w.cell? ⟨b,off+j,none⟩=some (.int .u8 (l[j].toNat:Int))):
  Calls Tryz.prog 156 #[.slice (some ⟨b,off,none⟩) l.length cap] w fun e w'=>e= .returned (.tuple #[.int .i64 (Ph.getI l).1,.int .i64 (Ph.getI l).2.1,.int .i64 (Ph.getI l).2.2])∧w=w':=by
 have HC:=Lib.hid hc;clear hc
 go_enter Tryz.func156,Tryz.ntmps156
 go_wp2
 go_loop [5,11] (fun u i=>∃k x:Nat,k≤l.length∧k≤9∧i= .int .i64 k∧u= .int .u64 x∧Hid (x<128 ^ k)∧Hid (Ph.getI l=Ph.getN k x (l.drop k))) (fun _ i=>l.length - (intOf i).toNat)
 case atStart=>exact ⟨0,0,by omega,by omega,rfl,rfl,by show 0<128 ^ 0;decide,rfl⟩
 case round=>
  obtain ⟨k,x,hk,hk9,rfl,rfl,HX,HK⟩:=hrel
  by_cases hlt:k<l.length
  ·have hlt':(k:Int)<(l.length:Int):=by omega
   have hcell:=HC.out k hlt;have HD:Hid (l.drop k=l[k]::l.drop (k+1)):=List.drop_eq_getElem_cons hlt;have hcb:=(l[k]).toNat_lt;generalize l[k]=c at *
   by_cases h9:k=9
   ·subst h9;have e9:(128:Nat) ^ 9=9223372036854775808:=by decide
    by_cases hc1:1<c.toNat
    ·have hc1':(1:Int)<(c.toNat:Int):=by omega
     have HF:Hid (Ph.getI l=(0,0,1)):=by show _=_;rw [HK.out,HD.out,Ph.getN_big _ _ _ _ rfl hc1]
     clear e9
     go_wp2
     go_ret3
     exact ⟨s6 HF.out (by omega),rfl⟩
    ·have hc1':(c.toNat:Int)≤1:=by omega
     have hc2':(c.toNat:Int)≤127:=by omega
     have hor:=Ph.or_last x c.toNat HX.out (by omega);have hy:x+c.toNat % 128*128 ^ 9<18446744073709551616:=by have:=HX.out;omega
     clear e9
     by_cases hz:c.toNat=0
     ·have hz':((c.toNat:Int) == 0)=true:=by rw [beq_iff_eq];omega
      have HF:Hid (Ph.getI l=(0,0,1)):=by show _=_;rw [HK.out,HD.out,Ph.getN_zero _ _ _ _ (by omega) hz]
      have HYY:=Lib.hid hy;clear hz hy
      go_wp2
      go_ret3
      exact ⟨s6 HF.out (by omega),rfl⟩
     ·have hz':((c.toNat:Int) == 0)=false:=by rw [beq_eq_false_iff_ne];omega
      have HF:Hid (Ph.getI l=(Ph.unzig (x+c.toNat % 128*128 ^ 9),9+1,0)):=by show _=_;rw [HK.out,HD.out,Ph.getN_last _ _ _ _ (by omega) (by omega) (by omega)]
      clear hz;generalize x+c.toNat % 128*128 ^ 9=y at *;have HYY:=Lib.hid hy;have hod:=and_one_u64 (y:Int) (by omega) (by omega);have hnt:=i64_not (y / 2) (by omega);have hdv:(0:Int)≤(y:Int) / 2:=by omega
      have hdv2:(y:Int) / 2≤9223372036854775807:=by omega
      clear hy
      by_cases ho:y % 2=1
      ·have ho':((y:Int) % 2 == 1)=true:=by rw [beq_iff_eq];omega
       have HU:=Lib.hid (Ph.unzig_odd y ho);clear ho
       go_wp2
       go_ret3
       refine ⟨s7 HF.out ?_ rfl rfl,rfl⟩;have e:(y:Int) / 2=((y / 2:Nat):Int):=by omega
       show bits BinOp.xor IntKind.i64 (-1) ((y:Int) / 2)=_;rw [e,i64_not _ (by have:=HYY.out;omega),HU.out]
      ·have ho':((y:Int) % 2 == 1)=false:=by rw [beq_eq_false_iff_ne];omega
       have HU:=Lib.hid (Ph.unzig_even y (by omega));clear ho
       go_wp2
       go_ret3
       refine ⟨s7 HF.out ?_ rfl rfl,rfl⟩;show (y:Int) / 2=_;rw [HU.out];omega
   ·have h9':((k:Int) == 9)=false:=by rw [beq_eq_false_iff_ne];omega
    have hsm:=Ph.sum_small x c.toNat k HX.out (by omega) hcb;have hor:=Ph.or_seven x c.toNat k HX.out hcb hsm.1 (by omega);have hy:x+c.toNat % 128*128 ^ k<9223372036854775808:=by
     have h1:=hsm.2;have h2:(128:Nat) ^ (k+1)≤128 ^ 9:=Nat.pow_le_pow_right (by omega) (by omega);have e9:(128:Nat) ^ 9=9223372036854775808:=by decide
     omega
    have HSM:=Lib.hid hsm.2;clear hsm
    by_cases hc1:127<c.toNat
    ·have hc1':(127:Int)<(c.toNat:Int):=by omega
     have HF:Hid (Ph.getI l=Ph.getN (k+1) (x+c.toNat % 128*128 ^ k) (l.drop (k+1))):=by show _=_;rw [HK.out,HD.out,Ph.getN_more _ _ _ _ h9 (by omega)]
     generalize x+c.toNat % 128*128 ^ k=y at *;have HYY:=Lib.hid hy;clear hy
     go_wp2
     go_round
     case rel=>exact ⟨k+1,y,by omega,by omega,by go_num,rfl,HSM.out,HF.out⟩
     case measure=>simp [intOf];omega
    ·have hc1':(c.toNat:Int)≤127:=by omega
     by_cases hz:0<k∧c.toNat=0
     ·obtain ⟨hz1,hz2⟩:=hz;have hk0:(0:Int)<(k:Int):=by omega
      have hz':((c.toNat:Int) == 0)=true:=by rw [beq_iff_eq];omega
      have HF:Hid (Ph.getI l=(0,0,1)):=by show _=_;rw [HK.out,HD.out,Ph.getN_zero _ _ _ _ hz1 hz2]
      have HYY:=Lib.hid hy;clear hy hz2
      go_wp2
      go_ret3
      exact ⟨s6 HF.out (by omega),rfl⟩
     ·have HF:Hid (Ph.getI l=(Ph.unzig (x+c.toNat % 128*128 ^ k),k+1,0)):=by show _=_;rw [HK.out,HD.out,Ph.getN_last _ _ _ _ (by omega) (by omega) hz]
      have HZZ:=Lib.hid hz;clear hz;generalize x+c.toNat % 128*128 ^ k=y at *;have HYY:=Lib.hid hy;have hod:=and_one_u64 (y:Int) (by omega) (by omega);have hdv:(0:Int)≤(y:Int) / 2:=by omega
      have hdv2:(y:Int) / 2≤9223372036854775807:=by omega
      clear hy
      by_cases hk0:0<k
      all_goals
       by_cases ho:y % 2=1
       ·have hz':0<k→((c.toNat:Int) == 0)=false:=fun h=>by rw [beq_eq_false_iff_ne];have:=HZZ.out;omega
        have hzk:Hid True:=trivial
        first|(have hz2:=hz' hk0;clear hz')|clear hz'
        have ho':((y:Int) % 2 == 1)=true:=by rw [beq_iff_eq];omega
        have HU:=Lib.hid (Ph.unzig_odd y ho);clear ho
        go_wp2
        go_ret3
        refine ⟨s7 HF.out ?_ rfl rfl,rfl⟩;have e:(y:Int) / 2=((y / 2:Nat):Int):=by omega
        show bits BinOp.xor IntKind.i64 (-1) ((y:Int) / 2)=_;rw [e,i64_not _ (by have:=HYY.out;omega),HU.out]
       ·have hz':0<k→((c.toNat:Int) == 0)=false:=fun h=>by rw [beq_eq_false_iff_ne];have:=HZZ.out;omega
        have hzk:Hid True:=trivial
        first|(have hz2:=hz' hk0;clear hz')|clear hz'
        have ho':((y:Int) % 2 == 1)=false:=by rw [beq_eq_false_iff_ne];omega
        have HU:=Lib.hid (Ph.unzig_even y (by omega));clear ho
        go_wp2
        go_ret3
        refine ⟨s7 HF.out ?_ rfl rfl,rfl⟩;show (y:Int) / 2=_;rw [HU.out];omega
  ·have hlt':(l.length:Int)≤(k:Int):=by omega
   have HF:Hid (Ph.getI l=(0,0,2)):=by show _=_;rw [HK.out,List.drop_eq_nil_of_le (by omega),Ph.getN_end]
   go_wp2
   go_ret3
   exact ⟨s6 HF.out (by omega),rfl⟩
end Go.Proofs.YtgpbngfehfbndaaGreatDoor
namespace Go.Sx
open Go.RowKit
def eR (b:Nat) (cs:List Value) (T:TypeId):Res where
 ok F W:=F b∧W.heap[b]? =some (.cells ⟨cs⟩ T (cs.length,cs.length+1))
 loc F W W' h:=fun ⟨h1,h2⟩=>⟨h1,(h b h1).trans h2⟩
section
variable {P:Program} {ops:Array Oper} {aE:List Oper} {Q:Exit→Act→World→Prop} {a:Act} {n G:Nat} {L:List (Nat×Value)} {w W W':World} {R R':List Res} {d b:Nat} {T S S' E:TypeId} {p:String} {e:Array Edge} {x y:Operand} {v:Value} {cs cs':List Value} {s:ByteArray} {l:List UInt8}
theorem Has.blockM {R0:List Res} (h:Has G w W R0) (i:In (eR b cs E) R0):W.heap[b]? =some (.cells ⟨cs⟩ E (cs.length,cs.length+1))∧G≤b∧b<W.heap.size:=by
 obtain ⟨F,h1,h2⟩:=h.of_in i;exact ⟨h2.2,h1 b h2.1⟩
theorem aBc {fr:Nat×Nat} (h:W.heap[b]? =some (.cells ⟨cs⟩ E fr)) (j:Nat):W.cell? ⟨b,j,none⟩=cs[j]?:=by
 unfold World.cell?;rw [h];simp
theorem oG [t:StrTy P S] [sl:Sl P S' E] [u:IntTy P E .u8] (hs:Slots a n L) (hw:Has G w W R) (hl:s.size≤1000000000) (hx:ev L x=some (.string s):=by with_unfolding_all exact rfl) (hd:Nat.blt d n=true:=by with_unfolding_all exact rfl)
  (c:∀a' b cap ext W',Has G w W' (eR b (bys s.data.toList ++ ext) E::R)→RdB W' (.slice (some ⟨b,0,none⟩) s.data.toList.length cap) s.data.toList→Slots a' n ((d,.slice (some ⟨b,0,none⟩) s.data.toList.length cap)::L)→wpList P ops Q aE a' W'):wpList P ops Q (⟨some d,.convert S S' x,T,p,e,none⟩::aE) a W:=by
 have hr:=run_bytes_of_string W S S' E s t.out sl.out u.out;have hge:s.size≤grownCap W s.size 0 E:=grownCap_ge W s.size 0 E;have hcm:grownCap W s.size 0 E≤maxLen:=grownCap_le_maxLen W s.size 0 E (by unfold maxLen;omega);generalize grownCap W s.size 0 E=cap at *;have hsz:s.data.toList.length=s.size:=by rw [Array.length_toList];rfl
 have hrow:bytesRow s cap=⟨bys s.data.toList ++ List.replicate (cap - s.size) (Value.int .u8 0)⟩:=by
  unfold bytesRow bys;apply Array.toList_inj.1;simp
 rw [hrow] at hr;have hnew:=heap_alloc_new W.drew (.cells ⟨bys s.data.toList ++ List.replicate (cap - s.size) (Value.int .u8 0)⟩ E ((bys s.data.toList ++ List.replicate (cap - s.size) (Value.int .u8 0)).length,(bys s.data.toList ++ List.replicate (cap - s.size) (Value.int .u8 0)).length+1));refine bW hs hd (v:= .slice (some ⟨W.heap.size,0,none⟩) s.data.toList.length cap) (W':=W.drew.alloc (.cells ⟨bys s.data.toList ++ List.replicate (cap - s.size) (Value.int .u8 0)⟩ E ((bys s.data.toList ++ List.replicate (cap - s.size) (Value.int .u8 0)).length,(bys s.data.toList ++ List.replicate (cap - s.size) (Value.int .u8 0)).length+1))) ?_ fun a' hs'=>c a' W.heap.size cap (List.replicate (cap - s.size) (Value.int .u8 0)) _ ((hw.below (Below.refl _ _).drew).newObj ⟨rfl,hnew⟩) ?_ hs'
 ·simp only [execOp,hs.ev hx,Sem.run_bind,hr,Result.andThen_ok,hsz];rfl
 ·refine ⟨by simp,some ⟨W.heap.size,0,none⟩,cap,rfl,by omega,by unfold maxLen at hcm;omega,.inr ⟨W.heap.size,0,rfl,jN hnew,fun j u hj=>?_⟩⟩;have hnew':(W.drew.alloc (.cells ⟨bys s.data.toList ++ List.replicate (cap - s.size) (Value.int .u8 0)⟩ E ((bys s.data.toList ++ List.replicate (cap - s.size) (Value.int .u8 0)).length,(bys s.data.toList ++ List.replicate (cap - s.size) (Value.int .u8 0)).length+1))).heap[W.heap.size]? =_:=hnew;rw [aBc hnew',Nat.zero_add];have hj2:=(List.getElem?_eq_some_iff.1 hj).1;rw [List.getElem?_append_left hj2];exact hj
end
theorem Has.newOwn {G:Nat} {w W W':World} {R:List Res} {E:TypeId} {size n:Nat} {v:Value} {xs:List Value} (h:Has G w W R) (hb:Below W.heap.size W W') (ho:OwnAt (fun b=>W.heap.size≤b∧b<W'.heap.size) W' E size v n xs):Has G w W' (Own E size v n xs::R):=by
 have h1:=h.below hb;refine ⟨h1.ext,h1.glob,_,?_,ho,?_⟩
 ·rintro b ⟨hb1,hb2⟩;exact ⟨Nat.le_trans h.globW hb1,hb2⟩
 ·refine (h.has.loc fun b hb'=>hb.block b hb'.2).mono fun b hb'=>⟨⟨hb'.1,Nat.lt_of_lt_of_le hb'.2 hb.size⟩,by omega⟩
section
variable {P:Program} {W:World}
theorem aGn {t tx ty E T:TypeId} {i:TypeInfo} {z:Value} (ht:P.underlying t=some (.slice E)) (hi:P.info? E=some i) (hz:i.zero=some z) (hzs:z.cells.size=i.size)
  {g k:Nat} {cur xs:List Value} (hg:W.heap[g]? =some (.cells ⟨cur⟩ T (0,0))) (hk:k*i.size≤cur.length) (htk:cur.take (k*i.size)=xs) {x:Value} {m:Nat} {news:List Value} (hs:Src P i.size tx x m news W) (hm:0<m) (h63:k+m≤9223372036854775807) (hb:(k+m)*i.bytes≤140737488355328):
  ∃ad cap W',(Builtin.append_ #[t,tx] ty #[.slice (some ⟨g,0,none⟩) k k,x]).run P W= .ok (.slice ad (k+m) cap) W'∧OwnAt (fun b=>W.heap.size≤b∧b<W'.heap.size) W' E i.size (.slice ad (k+m) cap) (k+m) (xs ++ news)∧Below W.heap.size W W':=by
 have hnl:news.length=m*i.size:=hs.newsLen;have hxl:xs.length=k*i.size:=by rw [←htk,List.length_take];omega
 have hlen:(xs ++ news).length=(k+m)*i.size:=by rw [List.length_append,hxl,hnl,Nat.add_mul]
 have hold:(Builtin.firstCells i.size k (.slice (some ⟨g,0,none⟩) k k)).run P W.drew= .ok xs.toArray W.drew:=by
  have:=vW (P:=P) (W:=W.drew) (b:=g) (T:=T) (cs:=cur) hg 0 (k*i.size) (by omega);simp only [List.drop_zero,htk] at this;simpa [Builtin.firstCells] using this
 have hr:=run_append_grow_src (P:=P) W t tx ty E i z ht hi hz (some ⟨g,0,none⟩) k k xs hold x m news hs (by omega) (by omega) (growslice_fits (by omega) hb);have hge:=grownCap_ge W (k+m) k E;have hcm:grownCap W (k+m) k E≤maxLen:=grownCap_le_maxLen W (k+m) k E (by unfold maxLen;omega);refine ⟨_,_,_,hr,⟨hlen,.inr ⟨W.heap.size,_,((xs ++ news).toArray ++ Builtin.zeroCells z.cells (grownCap W (k+m) k E - (k+m))).toList,rfl,⟨Nat.le_refl _,jN (heap_alloc_new W.drew _)⟩,heap_alloc_new W.drew _,hge,hcm,?_,?_⟩⟩,rfl,rfl,rfl,by simp,fun b hb=>heap_alloc_old W.drew _ hb⟩
 ·simp only [Array.toList_append,List.length_append,Array.length_toList,size_zeroCells,hzs];rw [←List.length_append,hlen,←Nat.add_mul];congr 1;omega
 ·simp only [Array.toList_append];rw [←hlen];exact List.take_left
end
section
variable {P:Program} {ops:Array Oper} {aE:List Oper} {Q:Exit→Act→World→Prop} {a:Act} {n G:Nat} {L:List (Nat×Value)} {w W:World} {R:List Res} {d:Nat} {T S S' E E':TypeId} {p:String} {e:Array Edge} {x y hi mx:Operand} {v u:Value} {cur xs news:List Value} {g k m len cap size bytes:Nat} {q q':IntKind} {z:List Value}
theorem aGo {agg:Bool} [sl:Sl P S E] [t:Ty P E agg z] (hs:Slots a n L) (hk:k≤cap) (hx:ev L x=some (.slice (some ⟨g,0,none⟩) len cap):=by with_unfolding_all exact rfl) (hh:ev L hi=some (.int q (k:Int)):=by with_unfolding_all exact rfl) (hm:ev L mx=some (.int q' (k:Int)):=by with_unfolding_all exact rfl) (hd:Nat.blt d n=true:=by with_unfolding_all exact rfl)
  (c:∀a',Slots a' n ((d,.slice (some ⟨g,0,none⟩) k k)::L)→wpList P ops Q aE a' W):wpList P ops Q (⟨some d,.slice S x none (some hi) (some mx),T,p,e,none⟩::aE) a W:=by
 have hb:∀(y:Nat) (c:BoundsCode) (q:IntKind),k≤y→(Instr.sliceBound (.int q (k:Int)) y c).run P W= .ok k W:=by
  intro y c q hy;have:(0:Int)≤(k:Int)∧(k:Int)≤(y:Int):=⟨by omega,by omega⟩
  simp only [Instr.sliceBound,asIntOf,Sem.run_bind,Sem.run_pure,Result.andThen_ok];rw [if_pos this];simp
 have hbs:(Instr.sliceBounds true len cap none (some (.int q (k:Int))) (some (.int q' (k:Int)))).run P W= .ok (0,k,k) W:=by
  unfold Instr.sliceBounds;simp [hb cap .slice3Acap q' hk,hb k .slice3B q (Nat.le_refl _)]
 refine bW hs hd (v:= .slice (some ⟨g,0,none⟩) k k) (W':=W) ?_ c;simp only [execOp,Option.map_some,Option.map_none,hs.ev hx,hs.ev hh,hs.ev hm,Instr.sliceAt,Instr.slice,Sem.run_bind,run_underlying sl.out,Result.andThen_ok,hbs,t.sizeOf,Sem.run_pure]
 by_cases h0:k=0
 ·subst h0;simp
 ·rw [if_neg h0];simp [eK]
theorem aGp [sl:Sl P S E] [el:El P E size bytes] (hs:Slots a n L) (hw:Has G w W R) (hg:W.heap[g]? =some (.cells ⟨cur⟩ E' (0,0))) (hk:k*size≤cur.length) (htk:cur.take (k*size)=xs) (hsrc:Src P size S' u m news W) (hm:0<m) (h63:k+m≤9223372036854775807) (hb:(k+m)*bytes≤140737488355328) (hx:ev L x=some (.slice (some ⟨g,0,none⟩) k k):=by with_unfolding_all exact rfl) (hy:ev L y=some u:=by with_unfolding_all exact rfl) (hd:Nat.blt d n=true:=by with_unfolding_all exact rfl)
  (c:∀a' ad cap W',Slots a' n ((d,.slice ad (k+m) cap)::L)→Has G w W' (Own E size (.slice ad (k+m) cap) (k+m) (xs ++ news)::R)→wpList P ops Q aE a' W'):wpList P ops Q (⟨some d,.call {callee:= .builtin .append,args:=#[x,y],argTypes:=#[S,S']},T,p,e,none⟩::aE) a W:=by
 obtain ⟨i,z,h1,h2,h3,h4,h5⟩:=el.out;subst h4 h5;obtain ⟨ad,cap,W',hr,ho,hbl⟩:=aGn (P:=P) (ty:=T) sl.out h1 h2 h3 hg hk htk hsrc hm h63 hb;refine bW hs hd (v:= .slice ad (k+m) cap) (W':=W') ?_ fun a' hs'=>c a' ad cap W' hs' (hw.newOwn hbl ho);simp only [execOp,resolve,invoke,builtin,Sem.run_bind,Sem.run_pure,Result.andThen_ok,List.map_toArray,List.map_cons,List.map_nil,hs.ev hx,hs.ev hy,hr]
end
section
variable {P:Program} {ops:Array Oper} {aE:List Oper} {Q:Exit→Act→World→Prop} {a:Act} {n G:Nat} {L:List (Nat×Value)} {w W:World} {R:List Res} {d:Nat} {T S E:TypeId} {p:String} {e:Array Edge} {x lo:Operand} {g k m cap size:Nat} {q:IntKind} {z cur:List Value} {H:Fh}
def gU (g size k cap m:Nat):Value:= .slice (if cap=m then some ⟨g,0,none⟩ else some ⟨g,m*size,none⟩) (k - m) (cap - m)
theorem tC {agg:Bool} [sl:Sl P S E] [t:Ty P E agg z] (hs:Slots a n L) (h1:m≤k) (hc:k≤cap) (hx:ev L x=some (.slice (some ⟨g,0,none⟩) k cap):=by with_unfolding_all exact rfl) (hl:ev L lo=some (.int q (m:Int)):=by with_unfolding_all exact rfl) (hd:Nat.blt d n=true:=by with_unfolding_all exact rfl)
  (c:∀a',Slots a' n ((d,gU g z.length k cap m)::L)→wpList P ops Q aE a' W):wpList P ops Q (⟨some d,.slice S x (some lo) none none,T,p,e,none⟩::aE) a W:=by
 have hb:(Instr.sliceBound (.int q (m:Int)) k .sliceB).run P W= .ok m W:=by
  have:(0:Int)≤(m:Int)∧(m:Int)≤(k:Int):=⟨by omega,by omega⟩
  simp only [Instr.sliceBound,asIntOf,Sem.run_bind,Sem.run_pure,Result.andThen_ok];rw [if_pos this];simp
 have hbs:(Instr.sliceBounds true k cap (some (.int q (m:Int))) none none).run P W= .ok (m,k,cap) W:=by
  unfold Instr.sliceBounds;simp [hb]
 refine bW hs hd (v:=gU g z.length k cap m) (W':=W) ?_ c;simp only [execOp,Option.map_some,Option.map_none,hs.ev hx,hs.ev hl,Instr.sliceAt,Instr.slice,Sem.run_bind,run_underlying sl.out,Result.andThen_ok,hbs,t.sizeOf,Sem.run_pure];unfold gU
 by_cases h0:cap=m
 ·simp [h0]
 ·rw [if_neg h0,if_neg h0];simp [eK]
theorem aBf (hg:W.heap[g]? =some (.cells ⟨cur⟩ E (0,0))) (hl:cur.length=cap*size) (hc:k≤cap) (h1:m≤k) (hm:cap≤maxLen):Rd W size (gU g size k cap m) (k - m) ((cur.take (k*size)).drop (m*size)):=by
 have e1:k*size≤cap*size:=Nat.mul_le_mul_right _ hc;have e2:m*size≤k*size:=Nat.mul_le_mul_right _ h1;unfold gU;refine ⟨by rw [List.length_drop,List.length_take,Nat.sub_mul];omega,_,_,rfl,by omega,by unfold maxLen at hm;omega,?_⟩
 by_cases h0:cap=m
 ·exact .inl (by omega)
 ·refine .inr ⟨g,m*size,by rw [if_neg h0],jN hg,fun j u hu=>?_⟩;rw [List.getElem?_drop,List.getElem?_take] at hu;split at hu
  ·rw [iJ hg];exact hu
  ·cases hu
end
section
variable {P:Program} {ops:Array Oper} {aE:List Oper} {Q:Exit→Act→World→Prop} {a:Act} {n:Nat} {L:List (Nat×Value)} {W:World} {d:Nat} {T:TypeId} {p:String} {e:Array Edge}
theorem aDO {f:FuncId} {xs:List Operand} {vs:List Value} (hs:Slots a n L) (k:∀a',Slots a' n ((d,.func (.func f) ⟨vs⟩ ⟨[]⟩)::L)→wpList P ops Q aE a' W) (hx:evs L xs=some vs:=by with_unfolding_all exact rfl) (hd:Nat.blt d n=true:=by with_unfolding_all exact rfl):
  wpList P ops Q (⟨some d,.makeFunc (.func f) ⟨xs⟩ ⟨[]⟩,T,p,e,none⟩::aE) a W:=by
 refine bW hs hd (v:= .func (.func f) ⟨vs⟩ ⟨[]⟩) (W':=W) ?_ k;simp only [execOp,List.map_toArray,hs.evs hx,Instr.makeFunc,Sem.run_bind,Sem.run_pure,Result.andThen_ok,List.map_nil]
theorem aJO {f:FuncId} {x:Operand} {xs:List Operand} {ts:Array TypeId} {vs fs:List Value} {C:Ending→World→Prop} (hs:Slots a n L) (hf:callee P f=true) (hc:Calls P f ⟨fs ++ vs⟩ W C)
  (k:∀e' W',C e' W'→∃v,e'= .returned v∧∀a',Slots a' n ((d,v)::L)→wpList P ops Q aE a' W') (hfv:ev L x=some (.func (.func f) ⟨fs⟩ ⟨[]⟩):=by with_unfolding_all exact rfl) (hx:evs L xs=some vs:=by with_unfolding_all exact rfl) (hd:Nat.blt d n=true:=by with_unfolding_all exact rfl):
  wpList P ops Q (⟨some d,.call {callee:= .value x,args:=⟨xs⟩,argTypes:=ts},T,p,e,none⟩::aE) a W:=by
 refine wpList_plain rfl fun K hK=>?_;have hr:(execOp a.eval ⟨some d,.call {callee:= .value x,args:=⟨xs⟩,argTypes:=ts},T,p,e,none⟩).run P W= .ok (.enter f ⟨fs ++ vs⟩) W:=by
  simp only [execOp,resolve,List.map_toArray,hs.evs hx,hs.ev hfv,Deferred.ofValue,Sem.run_bind,Sem.run_pure,Result.andThen_ok,invoke];have:((⟨fs⟩:Array Value) ++ ⟨vs⟩ ++ ⟨[]⟩)=⟨fs ++ vs⟩:=by simp
  simp only [this,vY hf]
 simp only [Oper.wp,hr,Oper.upon_enter];refine hc.mono fun e' W' h=>?_;obtain ⟨v,rfl,h2⟩:=k e' W' h;exact hK _ _ (h2 _ (hs.put hd v))
end
end Go.Sx
