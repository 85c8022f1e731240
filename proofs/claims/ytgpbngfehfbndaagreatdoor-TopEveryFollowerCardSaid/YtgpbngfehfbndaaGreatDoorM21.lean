/-
  Texts of the proof, one behind the other (part 21).
-/
import Derived.Test.YtgpbngfehfbndaaGreatDoorM18
import Derived.Shelf.SlIter.Collect
import Derived.WalkKit
import Derived.WalkLawsBesides
import Derived.WalkSpells
import Derived.Lib.Hide
import Derived.Deep.QuietTactic
import Derived.BigQuiet
import Derived.Test.YtgpbngfehfbndaaGreatDoorChecked
import Derived.Laws.Bits64
import Derived.Laws.Bits64b
import Derived.Laws.BitsLemmas
import Derived.Laws.DeepNot64
import Derived.WalkSmall
import Derived.Deep.Draws
import Derived.Lib.ValidLaws
import Derived.Lib.MapLaws
import Derived.Lib.TrimUEq
import Derived.Lib.RuneBytes
import Derived.Laws.RangeAny
import Derived.Laws.Strings
import GoSem.Op.String
import Derived.Laws.StructEq
import Derived.IntWalk
import Derived.Shelf.Small.Bits
import Derived.Shelf.Strconv.Itoa0
import Derived.Ground.Names2Prog
import Derived.Shelf.Slices.Clone
import Derived.Shelf.Bytes.SlSearch0
import Derived.Ground.SlbCloneProg
import Derived.Shelf.Bytes.SlClone
import Derived.Shelf.Bytes.Small
import Derived.Shelf.Unicode.ValidAny
import Derived.Test.YtgpbngfehfbndaaGreatDoorProg
import Derived.Ground.GgzProg
import Derived.Below
import Derived.Tactics
import Derived.RegionTactic
import Derived.Deep.AppendSrc
import Derived.Laws.AppendOwn
import Derived.Laws.BytesString
import Derived.Laws.Tables
import Derived.Laws.IdiomStrings
import Derived.Laws.Small
import Derived.Maps.Own
import Derived.Maps.Views
import Derived.Sort.KeysCollected
import Derived.Maps.RangeRun
import Derived.Deep.RegionHeld3
import Derived.DataShut
import Derived.Lib.UnsafeStr
import Derived.Deep.AppendLies
set_option maxHeartbeats 16000000
set_option linter.unusedVariables false
set_option maxRecDepth 10000
namespace Go.Proofs.YtgpbngfehfbndaaGreatDoor.Sw
open Go.RowKit Go.Sx Go.Sort Go.Proofs Go.Maps
theorem aH0 (w0 W:World) (m:Nat) (R:List Res) (hw:Has 0 w0 W R):
  Calls Tryz.prog 147 ⟨[.map (some m)]⟩ W fun e W'=>∃q,e= .returned (.func (.func 223) #[] #[.pointer (some ⟨q,0,none⟩)])∧True∧Has 0 w0 W' (aA q [.map (some m)] (Tryz.keysD_ren.t 23)::R):=
 (callsIn_wide.1 (AnyZ.keys_in Tryz.keysD Fence.wide 5 trivial rfl (some m) W)).mono (by
  rintro e W' ⟨rfl,rfl⟩
  exact ⟨_,rfl,trivial,hw.new [.map (some m)] _⟩)
theorem aH1 (w0 W:World) (q m:Nat) (d:KV) (R:List Res) (hl:d.length≤1) (hd:∀p∈d,p.1.size≤1000) (hw:Has 0 w0 W (aA q [.map (some m)] (Tryz.keysD_ren.t 23)::bN m d::R)):
  Calls Tryz.prog 221 ⟨[.func (.func 223) #[] #[.pointer (some ⟨q,0,none⟩)]]⟩ W fun e W'=>∃(sv:Value),e= .returned sv∧True∧
   Has 0 w0 W' (Sx.Own 9 1 sv d.length ((d.map (·.1)).map Value.string)::aA q [.map (some m)] (Tryz.keysD_ren.t 23)::bN m d::R):=by
 obtain ⟨es,c,hm,he⟩:=hw.map_at (In.tl In.hd);have hk:es.map (·.k)=d.map (·.1):=by
  rw [←he,List.map_map];rfl
 have hlen:es.length=d.length:=by simpa using congrArg List.length hk
 have hsz:∀e∈es,e.k.size≤maxLen:=by
  intro e he';have h1:e.k∈d.map (·.1):=hk▸List.mem_map_of_mem he';obtain ⟨p,hp,hpe⟩:=List.mem_map.1 h1;have h2:=hd p hp;rw [hpe] at h2;exact Nat.le_trans h2 (by decide)
 have hnd:(es.map (·.k)).Nodup:=by
  rw [hk]
  match d,hl with
  | [],_=>simp
  | [p],_=>simp
 obtain ⟨D0,ho,hp,hs⟩:=aHZ (P:=Tryz.prog) (K:=Tryz.keysD_ren.t 26) (by kernel_rfl) hm hnd hsz (Nat.le_trans (by omega:es.length≤50) (by decide));have hq:=hw.block In.hd;have hseq:SeqGives Fence.wide 3 Tryz.prog (Tryz.keysD_ren.f 10) #[.pointer (some ⟨q,0,none⟩)] encStr (fun ss=>ss.Perm (strKeys D0)) (Maps.size D0) W:=
  AnyZ.keys_gives (ρ:=Tryz.keysD_ren) {Tryz.keysD with} Fence.wide _ trivial rfl (by omega) q m es.length D0 W hq.2.2 (by rw [iJ hq.1];rfl) ho
 refine (callsIn_wide.1 (AnyZ.collect_in Tryz.collD Fence.wide 5 trivial trivial rfl (by omega) (Tryz.keysD_ren.f 10) #[.pointer (some ⟨q,0,none⟩)] trivial (enters_of Tryz.func223 (by kernel_rfl) rfl) _ _ (by rw [hs];exact Nat.le_trans (by omega:es.length≤50) (by decide)) (by rw [hs];omega) W hseq)).mono ?_;rintro e W' ⟨v,ss,rfl,hS,hrow,hnil,hb⟩;have hks:(ss.map fun s=>(⟨s.toArray⟩:ByteArray)).map Value.string=ss.map encStr:=by rw [List.map_map];rfl
 have hpm:(ss.map fun s=>(⟨s.toArray⟩:ByteArray)).Perm (d.map (·.1)):=by
  refine ((hS.trans hp).map _).trans (List.Perm.of_eq ?_);rw [List.map_map,←hk];refine List.map_congr_left fun e _=>?_;show (⟨e.k.data.toList.toArray⟩:ByteArray)=e.k;simp
 have heq:(ss.map fun s=>(⟨s.toArray⟩:ByteArray))=d.map (·.1):=by
  match d,hl,hpm with
  | [],_,hpm=>exact List.Perm.eq_nil hpm
  | [p],_,hpm=>exact List.perm_singleton.1 hpm
 have hsl:ss.length=d.length:=by simpa using congrArg List.length heq
 refine ⟨v,rfl,trivial,?_⟩;rw [←heq,hks,←hsl];refine hw.newOwn hb ?_;obtain ⟨h1,h2⟩:=hrow;refine ⟨h1,h2.imp id ?_⟩;rintro ⟨g,cap,cur,h3,h4,h5,h6,h7,h8,h9⟩;exact ⟨g,cap,cur.toList,h3,⟨h4,(Array.getElem?_eq_some_iff.1 h5).1⟩,h5,h6,h7,by simpa using h8,h9⟩
section
variable {nm:ByteArray} {p m f:Nat} {w0 W:World} {R L:List Res} {d:bF}
theorem aH2 {ad:Option Addr} {k cap:Nat} (hk:k≤1):Get Tryz.prog 222 [.slice ad k cap] L (.tuple ⟨[]⟩) L:=⟨fun {w W} hw=>by
 have hi:∀{W:World},Has 0 w W L→Calls Tryz.prog 294 ⟨[.slice ad k cap,.int .i64 0,.int .i64 (k:Int)]⟩ W fun e W'=>e= .returned (.tuple ⟨[]⟩)∧Has 0 w W' L:=by
  intro W hw;refine enter Tryz.func294 Tryz.ntmps294 rfl rfl fun a hs=>?_;refine sv hs hw fun a hs=>?_;refine bY (σ:=Unit) (fun _=>[(2,.int .i64 (k:Int)),(6,.int .i64 1)]) (fun _=>L) (fun _=>True) (fun _=>0) () trivial hs ⟨rfl,rfl,trivial⟩ hw ?_;clear hs hw;intro _ a W _ hs hw;refine sv hs hw fun a hs=>?_;rw [show decide ((1:Int)<(k:Int))=false from decide_eq_false (by omega)] at hs;refine sc hs ?_
  first
   |exact rt0 hs rfl ⟨rfl,hw⟩
   |exact cP hs rfl ⟨rfl,hw⟩
 have hp:∀{W:World} {q:Int},Has 0 w W L→Calls Tryz.prog 267 ⟨[.slice ad k cap,.int .i64 0,.int .i64 (k:Int),.int .i64 q]⟩ W fun e W'=>e= .returned (.tuple ⟨[]⟩)∧Has 0 w W' L:=by
  intro W q hw;refine enter Tryz.func267 Tryz.ntmps267 rfl rfl fun a hs=>?_;refine sv hs hw fun a hs=>?_;refine bY (σ:=Unit) (fun _=>[(0,.slice ad k cap),(1,.int .i64 0),(2,.int .i64 (k:Int))]) (fun _=>L) (fun _=>True) (fun _=>0) () trivial hs ⟨rfl,rfl,rfl,trivial⟩ hw ?_;clear hs hw;intro _ a W _ hs hw;refine sv hs hw fun a hs=>?_;rw [show decide (IntKind.i64.wrap ((k:Int) - 0)≤12)=true from decide_eq_true (by rw [IntWalk.i64_in _ (by omega)];omega)] at hs;refine sv hs hw fun a hs=>?_;refine cl hs (hi hw) fun a W hs hw=>?_;refine sc hs ?_
  first
   |exact rt0 hs rfl ⟨rfl,hw⟩
   |exact cP hs rfl ⟨rfl,hw⟩
 refine enter Tryz.func222 Tryz.ntmps222 rfl rfl fun a hs=>?_;refine sv hs hw fun a hs=>?_;refine aG hs (hc:=Tryz.bits_Len (IntKind.u64.wrap (k:Int)) W (by rw [IntKind.wrap_u64];omega) (by rw [IntKind.wrap_u64];omega)) (k:=?_);rintro e W' ⟨rfl,rfl⟩;refine ⟨_,rfl,fun a hs=>?_⟩;refine cl hs (hp hw) fun a W hs hw=>?_;refine sc hs ?_
 exact cP hs rfl ⟨rfl,hw⟩⟩
theorem aH3 (q m:Nat) (d:KV) (hl:d.length≤1) (hd:∀p∈d,p.1.size≤1000) (hw:Has 0 w0 W (aA q [.map (some m)] (Tryz.keysD_ren.t 23)::bN m d::R)):
  Calls Tryz.prog 146 ⟨[.func (.func 223) #[] #[.pointer (some ⟨q,0,none⟩)]]⟩ W fun e W'=>∃(sv:Value),e= .returned sv∧True∧
   Has 0 w0 W' (Sx.Own 9 1 sv d.length ((d.map (·.1)).map Value.string)::aA q [.map (some m)] (Tryz.keysD_ren.t 23)::bN m d::R):=by
 refine enter Tryz.func146 Tryz.ntmps146 rfl rfl fun a hs=>?_;refine sv hs hw fun a hs=>?_;refine cle hs (aH1 w0 W q m d R hl hd hw) fun s a W _ hs hw=>?_;obtain ⟨ad,cap,rfl⟩:=hw.own_slice;refine sv hs hw fun a hs=>?_;refine cl hs ((aH2 (ad:=ad) (cap:=cap) hl).ok hw) fun a W hs hw=>?_;refine sv hs hw fun a hs=>?_;exact rt1 hs rfl rfl ⟨_,rfl,trivial,hw⟩
def fC (nm:ByteArray):bF→List ByteArray
 |none=>[]
 |some _=>[nm]
theorem aCM (hn:nm.size≤1000) (hw:Has 0 w0 W (aB nm p d::R)):
  Calls Tryz.prog 82 ⟨[ptr p]⟩ W fun e W'=>∃x:Option Addr×Nat,e= .returned (.slice x.1 (fC nm d).length x.2)∧True∧Has 0 w0 W' (Sx.Own 9 1 (.slice x.1 (fC nm d).length x.2) (fC nm d).length ((fC nm d).map Value.string)::aB nm p d::R):=by
 obtain ⟨m,c,kv,hkl,hkn,R',hw,hback⟩:∃(m:Nat) (c:Int) (kv:KV),kv.length≤1∧kv.map (·.1)=fC nm d∧∃R',Has 0 w0 W (dJ p m c::bN m kv::R')∧∀{W L},Has 0 w0 W (L::dJ p m c::bN m kv::R')→Has 0 w0 W (L::aB nm p d::R):=by
  cases d with
  |none=>
   obtain ⟨m,c,hw⟩:=qO hw;exact ⟨m,c,[],by simp,rfl,R,hw,fun h=>(yG (h.pm:Has 0 w0 _ (dJ p m c::bN m []::_::R))).swap2⟩
  |some fd=>
   obtain ⟨m,c,f,ad,cap,hw⟩:=qP hw;exact ⟨m,c,_,by simp,rfl,_,hw,fun {W L} h=>(nK (f:=f) (h.pm:Has 0 w0 W (dJ p m c::bN m [(nm,ptr f)]::eU f (.slice ad fd.b.length cap) fd.lasts fd.there::bP (.slice ad fd.b.length cap) fd.b::L::R))).swap2⟩
 have hd1:∀p∈kv,p.1.size≤1000:=by
  intro p hp;have h1:p.1∈fC nm d:=hkn▸List.mem_map_of_mem hp;cases d with
  |none=>cases h1
  |some fd=>
   have h1:p.1∈[nm]:=h1;rw [List.mem_singleton] at h1;rw [h1];exact hn
 have hlen:kv.length=(fC nm d).length:=by rw [←hkn,List.length_map]
 refine enter Tryz.func82 Tryz.ntmps82 rfl rfl fun a hs=>?_;refine sv hs hw fun a hs=>?_;refine cle hs (aH0 w0 W m _ hw) fun q a W _ hs hw=>?_;have hw:Has 0 w0 W (aA q [.map (some m)] (Tryz.keysD_ren.t 23)::bN m kv::dJ p m c::R'):=hw.pm;refine cle hs (aH3 q m kv hkl hd1 hw) fun s a W _ hs hw=>?_;rw [hkn,hlen] at hw;obtain ⟨ad,cap,rfl⟩:=hw.own_slice;refine sv hs hw fun a hs=>?_;refine rt1 hs rfl rfl ⟨(ad,cap),rfl,trivial,?_⟩;exact hback (hw.sl)
end
end Go.Proofs.YtgpbngfehfbndaaGreatDoor.Sw
namespace Go.Proofs.YtgpbngfehfbndaaGreatDoor.Sw
open Go.RowKit Go.Sx
theorem yS:∀{q:Option Int} {l:List Int},fP q l=true→∀x∈l,1≤x∧x≤7
 |_,[],_,x,h=>by cases h
 |none,y::r,h,x,hx=>by
  simp [fP] at h;rcases List.mem_cons.1 hx with rfl|hx
  ·omega
  ·exact yS h.2 x hx
 |some q,y::r,h,x,hx=>by
  simp [fP] at h;rcases List.mem_cons.1 hx with rfl|hx
  ·omega
  ·exact yS h.2 x hx
theorem aCT {l:List Int} (h:cV l=true):∀x∈l,1≤x∧x≤7:=by
 unfold cV at h;rw [Bool.and_eq_true] at h;exact yS h.1
def lN (l:List Int):List UInt8:=l.map fun x=>UInt8.ofNat (48+x).toNat
section
variable {l:List Int} {sl:Value} {L L1:List Res}
theorem aCU [c:dI (fun l=>aN sl l) L l L1]:Get Tryz.prog 88 [sl] L (.string ⟨(d8 l).toArray⟩) L:=⟨fun {w W} hw=>by
 have hr:∀{W},Has 0 w W L→Rd W 1 sl l.length (bU l):=fun h=>(h.pick c.p).rd_own In.hd;obtain ⟨ad,cap,rfl⟩:=Has.own_slice (hw.pick c.p);refine enter Tryz.func88 Tryz.ntmps88 rfl rfl fun a hs=>?_;refine sx hs hw fun a W hs hw=>?_;unfold d8;cases h:cV l with
 |false=>
  rw [h] at hs;refine sv hs hw fun a hs=>?_;exact rt1 hs rfl rfl ⟨rfl,hw⟩
 |true=>
 rw [h] at hs;have hmem:=aCT h;have h7:=qN h;refine sv hs hw fun a hs=>?_;have hw:Has 0 w W (bP (.slice none 0 0) []::L):=hw.nilB 5;refine bY (σ:=Nat×Option Addr×Nat) (fun u=>[(3,.slice u.2.1 (lN (l.take u.1)).length u.2.2),(9,.slice ad l.length cap),(10,.int .i64 (l.length:Int)),(11,.int .i64 (u.1:Int))]) (fun u=>bP (.slice u.2.1 (lN (l.take u.1)).length u.2.2) (lN (l.take u.1))::L) (fun u=>u.1≤l.length) (fun u=>l.length - u.1) (0,none,0) (Nat.zero_le _) hs ⟨rfl,rfl,rfl,rfl,trivial⟩ hw ?_;clear hs hw;rintro ⟨i,ad2,cap2⟩ a W hi hs hw;have hi:i≤l.length:=hi;simp only at hs hw;refine sv hs hw fun a hs=>?_;refine cI hs (kt:=fun hc=>?_) (kf:=fun hc=>?_)
 ·have hi':i<l.length:=by simpa using hc
  obtain ⟨o,ho,hd⟩:=dR hi';have hm:=hmem o (List.mem_of_getElem? ho);have hn:lN (l.take (i+1))=lN (l.take i) ++ [UInt8.ofNat (48+o).toNat]:=by unfold lN;rw [gB ho,List.map_append];rfl
  have hk:(lN (l.take i)).length≤7:=by unfold lN;rw [List.length_map,List.length_take];omega
  refine sc hs ?_;refine hQ hs (hr (hw.d1)) ho rfl fun a b f hs=>?_;refine sv hs hw fun a hs=>?_
  rw [show IntKind.u8.wrap (IntKind.i64.wrap (48+o))=((UInt8.ofNat (48+o).toNat).toNat:Int) by
   rw [IntWalk.i64_in _ (by omega)];have:(48+o)=(((48+o).toNat:Nat):Int):=by omega
   rw [this]
   simp [IntKind.wrap,IntKind.bits,IntKind.signed]] at hs
  refine sn hs hw fun b a W hs hw=>?_;refine iK hs (hw.pick (Pick.tl Pick.hd)) (l:=lN (l.take i)) (m:=[UInt8.ofNat (48+o).toNat]) (hr:=wA (m:=1) (size:=1) (hw.pick (Pick.tl Pick.hd)) (In.tl In.hd) rfl rfl 1) (hb:=by simp;omega) (c:=fun a ad cap W hs hw=>?_);rw [←hn] at hs hw;refine sv hs hw fun a hs=>?_;exact bQ (i+1,ad,cap) hs (hw.sl) hi' (by show l.length - (i+1)<l.length - i;omega) ⟨rfl,rfl,rfl,bR (i1 (by omega)),trivial⟩
 ·have:l.take i=l:=List.take_of_length_le (by simp at hc;omega);rw [this] at hs hw;refine sv hs hw fun a hs=>?_;refine mS hs (r:=hw.rd_own In.hd) (k:=fun a hs=>?_);refine sv hs hw fun a hs=>?_
  exact rt1 hs rfl rfl ⟨rfl,hw.d1⟩⟩
theorem aHh {l2:List Int} {s2:Value} {L2:List Res} [c:dI (fun l=>aN sl l) L l L1] [c2:dI (fun l=>aN s2 l) L l2 L2]:Get Tryz.prog 190 [sl,s2] L (.bool (oH l l2)) L:=⟨fun {w W} hw=>by
 refine enter Tryz.func190 Tryz.ntmps190 rfl rfl fun a hs=>?_;refine sv hs hw fun a hs=>?_
 let f:Nat→Bool:=fun (k:Nat)=>has l ((k:Int)+1) !=has l2 ((k:Int)+1)
 have hle:∀k,((List.range k).filter f).length≤k:=fun k=>Nat.le_trans (List.length_filter_le _ _) (by simp);refine bY (σ:=Nat) (fun k=>[(0,sl),(1,s2),(5,.int .i64 (((List.range k).filter f).length:Int)),(6,.int .i64 ((k:Int)+1))]) (fun _=>L) (fun k=>k≤7) (fun k=>7 - k) 0 (by decide) hs ⟨rfl,rfl,rfl,rfl,trivial⟩ hw ?_;clear hs hw;intro k a W hk hs hw;have hk:k≤7:=hk;refine sv hs hw fun a hs=>?_;refine cI hs (kt:=fun hc=>?_) (kf:=fun hc=>?_)
 ·have hk':k<7:=by simp at hc;omega
  have hs1:((List.range (k+1)).filter f).length=((List.range k).filter f).length+(match f k with|true=>1|false=>0):=by
   rw [List.range_succ,List.filter_append,List.length_append];cases hf:f k <;> simp [hf]
  have hlk:=hle k;refine sx hs hw fun a W hs hw=>?_;rw [show (!(has l ((k:Int)+1) == has l2 ((k:Int)+1)))=f k from rfl] at hs;cases c:f k with
  |true=>
   rw [c] at hs hs1;replace hs1:((List.range (k+1)).filter f).length=((List.range k).filter f).length+1:=hs1;refine sv hs hw fun a hs=>?_;exact bQ (k+1) hs hw hk' (by omega) ⟨rfl,rfl,bR (by rw [hs1,IntWalk.i64_in _ (by omega)];omega),bR (by rw [IntWalk.i64_in _ (by omega)];omega),trivial⟩
  |false=>
   rw [c] at hs hs1;refine sv hs hw fun a hs=>?_;exact bQ (k+1) hs hw hk' (by omega) ⟨rfl,rfl,bR (by rw [hs1];rfl),bR (by rw [IntWalk.i64_in _ (by omega)];omega),trivial⟩
 ·have h7:k=7:=by simp at hc;omega
  subst h7;have e:oH l l2=(cV l && cV l2 && decide (((List.range 7).filter f).length≤1)):=rfl;rw [e];refine sx hs hw fun a W hs hw=>?_;cases c1:cV l with
  |false=>
   rw [c1] at hs;refine sv hs hw fun a hs=>?_;exact rt1 hs rfl rfl ⟨rfl,hw⟩
  |true=>
  rw [c1] at hs;refine sx hs hw fun a W hs hw=>?_;cases c2:cV l2 with
  |false=>
   rw [c2] at hs;refine sv hs hw fun a hs=>?_;exact rt1 hs rfl rfl ⟨rfl,hw⟩
  |true=>
   rw [c2] at hs;refine sv hs hw fun a hs=>?_;have e3:decide ((((List.range 7).filter f).length:Int)≤1)=decide (((List.range 7).filter f).length≤1):=by by_cases h:((List.range 7).filter f).length≤1 <;> simp [h] <;> omega
   rw [e3] at hs
   exact rt1 hs rfl rfl ⟨rfl,hw⟩⟩
end
theorem tU {l:List Int} {x v:Int} (h:l.length=8):(eG l x v).length=8:=by simp [eG,h]
theorem aCV {l:List Int} {x v:Int} (h:l.length=8) (hx:0≤x∧x<8):nth (eG l x v) x=v:=by
 unfold nth eG;rw [List.getD_eq_getElem?_getD,List.getElem?_set,if_pos rfl,if_pos (by omega)];rfl
section
variable {p:Nat} {t:TrackD} {L L1:List Res} {X i:Int}
theorem track_Yes [c:dI (fun t=>gM p t) L t L1]:Get Tryz.prog 218 [ptr p,.int .i64 X,.int .i64 i] L (.bool (t.yesD X i).2) (gM p (t.yesD X i).1::L1):=⟨fun {w W} hw=>by
 obtain ⟨hl,hw⟩:=oM (hw.pick c.p);have e:t.yesD X i=match srv X && dB i with|false=>(t,false)|true=>(⟨eG t.next X (max (nth t.next X) (w64 (max (nth t.mat X) i+1))),eG t.mat X (max (nth t.mat X) i)⟩,decide (i > nth t.mat X)):=rfl
 rw [e];refine enter Tryz.func218 Tryz.ntmps218 rfl rfl fun a hs=>?_;refine sx hs hw fun a W hs hw=>?_;cases c1:srv X with
 |false=>
  rw [c1] at hs;refine sv hs hw fun a hs=>?_;exact rt1 hs rfl rfl ⟨rfl,iV hw hl⟩
 |true=>
  rw [c1] at hs;refine sx hs hw fun a W hs hw=>?_;cases c2:dB i with
  |false=>
   rw [c2] at hs;refine sv hs hw fun a hs=>?_;exact rt1 hs rfl rfl ⟨rfl,iV hw hl⟩
  |true=>
   rw [c2] at hs;have hx:=qX c1;have hj0:=hx.1;have hj1:X<((8:Nat):Int):=hx.2;have hl2:=yM hl.1 hl.2 hx;have hl3:=aH7 hl.1 hl.2 hx (.int .i64 (max (nth t.mat X) i));refine sw (P:=Tryz.prog) hs hw fun a W hs hw=>?_;refine bG [13] [.f 0 0,.f 0 0,.f 0 0,.f 0 0,.f 0 0,.f 0 0,.f 0 0,.f 0 0,.f 0 0,.f 0 0,.f 0 0,.f 0 0,.f 0 0,.m 0] [.c0 _,.c0 _,.c0 _,.c0 _,.c0 _,.c0 _,.c0 _,.c0 _,.c0 _,.c0 _,.c0 _,.c0 _,.c0 _,.c1 (fun x=>undef)] (aA p (bU t.next ++ bU t.mat) 340::L1) (fun x=>aA p (ov (bU t.next ++ bU t.mat) (0+8+X.toNat*1) [.int .i64 (max (nth t.mat X) i)]) 340::L1) (fun x y=>[]) (fun x y z=>[]) (fun x y z t=>[]) hs hw ?kk ⟨drs,drs,drs,drs,drs,drs,drs,drs,drs,drs,drs,drs,drs,drm,trivial⟩
   case kk=>
    intro _ a W hs hw;rw [aH6 hl.1 hl.2 hx] at hw;replace hs:Slots a 58 [(0,ptr p),(1,.int .i64 X),(2,.int .i64 i),(7,.bool (decide (i > nth t.mat X)))]:=hs.ot;have hm:=aCV (v:=max (nth t.mat X) i) hl.2 hx;have hml:=tU (x:=X) (v:=max (nth t.mat X) i) hl.2;clear hl2 hl3;generalize eG t.mat X (max (nth t.mat X) i)=mt at *;have hl1:=qY (mt:=mt) hl.1 hx;have hl2:=yM hl.1 hml hx;have hl3:=q0 hl.1 hml hx (.int .i64 (max (nth t.next X) (IntKind.i64.wrap (nth mt X+1))));refine sc hs ?_;refine bG [19] [.f 0 0,.f 0 0,.f 0 0,.f 0 0,.f 0 0,.f 0 0,.f 0 0,.f 0 0,.f 0 0,.f 0 0,.f 0 0,.f 0 0,.f 0 0,.f 0 0,.f 0 0,.f 0 0,.f 0 0,.f 0 0,.f 0 0,.m 0] [.c0 _,.c0 _,.c0 _,.c0 _,.c0 _,.c0 _,.c0 _,.c0 _,.c0 _,.c0 _,.c0 _,.c0 _,.c0 _,.c0 _,.c0 _,.c0 _,.c0 _,.c0 _,.c0 _,.c1 (fun x=>undef)] (aA p (bU t.next ++ bU mt) 340::L1) (fun x=>aA p (ov (bU t.next ++ bU mt) (0+0+X.toNat*1) [.int .i64 (max (nth t.next X) (IntKind.i64.wrap (nth mt X+1)))]) 340::L1) (fun x y=>[]) (fun x y z=>[]) (fun x y z t=>[]) hs hw ?kk ⟨drs,drs,drs,drs,drs,drs,drs,drs,drs,drs,drs,drs,drs,drs,drs,drs,drs,drs,drs,drm,trivial⟩
    case kk=>
     intro _ a W hs hw;rw [qZ hl.1 hx,hm] at hw;refine sv hs hw fun a hs=>?_
     exact rt1 hs rfl rfl ⟨rfl,iV (t:=⟨_,_⟩) hw ⟨tU hl.1,hml⟩⟩⟩
theorem track_No [c:dI (fun t=>gM p t) L t L1]:Get Tryz.prog 217 [ptr p,.int .i64 X,.int .i64 i] L (.bool (t.noD X i).2) (gM p (t.noD X i).1::L1):=⟨fun {w W} hw=>by
 obtain ⟨hl,hw⟩:=oM (hw.pick c.p);have e:t.noD X i=match srv X && dB i with|false=>(t,false)|true=>(⟨eG t.next X (max (min (w64 (nth t.next X - 1)) (w64 (i+1))) (w64 (nth t.mat X+1))),t.mat⟩,max (min (w64 (nth t.next X - 1)) (w64 (i+1))) (w64 (nth t.mat X+1)) !=nth t.next X):=rfl
 rw [e];refine enter Tryz.func217 Tryz.ntmps217 rfl rfl fun a hs=>?_;refine sx hs hw fun a W hs hw=>?_;cases c1:srv X with
 |false=>
  rw [c1] at hs;refine sv hs hw fun a hs=>?_;exact rt1 hs rfl rfl ⟨rfl,iV hw hl⟩
 |true=>
  rw [c1] at hs;refine sx hs hw fun a W hs hw=>?_;cases c2:dB i with
  |false=>
   rw [c2] at hs;refine sv hs hw fun a hs=>?_;exact rt1 hs rfl rfl ⟨rfl,iV hw hl⟩
  |true=>
   rw [c2] at hs;have hx:=qX c1;have hj0:=hx.1;have hj1:X<((8:Nat):Int):=hx.2;have hl1:=qY (mt:=t.mat) hl.1 hx;have hl2:=yM hl.1 hl.2 hx;have hl3:=q0 hl.1 hl.2 hx (.int .i64 (max (min (w64 (nth t.next X - 1)) (w64 (i+1))) (w64 (nth t.mat X+1))));refine sw (P:=Tryz.prog) hs hw fun a W hs hw=>?_;refine bG [18] [.f 0 0,.f 0 0,.f 0 0,.f 0 0,.f 0 0,.f 0 0,.f 0 0,.f 0 0,.f 0 0,.f 0 0,.f 0 0,.f 0 0,.f 0 0,.f 0 0,.f 0 0,.f 0 0,.f 0 0,.f 0 0,.m 0] [.c0 _,.c0 _,.c0 _,.c0 _,.c0 _,.c0 _,.c0 _,.c0 _,.c0 _,.c0 _,.c0 _,.c0 _,.c0 _,.c0 _,.c0 _,.c0 _,.c0 _,.c0 _,.c1 (fun x=>undef)] (aA p (bU t.next ++ bU t.mat) 340::L1) (fun x=>aA p (ov (bU t.next ++ bU t.mat) (0+0+X.toNat*1) [.int .i64 (max (min (w64 (nth t.next X - 1)) (w64 (i+1))) (w64 (nth t.mat X+1)))]) 340::L1) (fun x y=>[]) (fun x y z=>[]) (fun x y z t=>[]) hs hw ?kk ⟨drs,drs,drs,drs,drs,drs,drs,drs,drs,drs,drs,drs,drs,drs,drs,drs,drs,drs,drm,trivial⟩
   case kk=>
    intro _ a W hs hw;rw [qZ hl.1 hx] at hw;replace hs:Slots a 49 [(0,ptr p),(1,.int .i64 X),(7,.int .i64 (nth t.next X))]:=hs.ot;have hm:=aCV (v:=max (min (w64 (nth t.next X - 1)) (w64 (i+1))) (w64 (nth t.mat X+1))) hl.1 hx;have hml:=tU (x:=X) (v:=max (min (w64 (nth t.next X - 1)) (w64 (i+1))) (w64 (nth t.mat X+1))) hl.1;clear hl1 hl2 hl3;have hl1:=qY (mt:=t.mat) hml hx;rw [hm] at hl1;refine sw (P:=Tryz.prog) hs hw fun a W hs hw=>?_
    exact rt1 hs rfl rfl ⟨rfl,iV (t:=⟨_,_⟩) hw ⟨hml,hl.2⟩⟩⟩
end
theorem yT {cur:List Value} {l:List Int} {n:Nat} (h:cur.take (n*1)=l.map (Value.int .i64)):cur=cS l ++ cur.drop n:=by
 rw [Nat.mul_one] at h;rw [show cS l=cur.take n from h.symm];exact (List.take_append_drop _ _).symm
section
variable {l:List Int} {sl:Value} {L L1:List Res} {x:Int}
theorem aHi (hl:l.length≤7) [c:dI (fun l=>aN sl l) L l L1]:New Tryz.prog 112 [sl,.int .i64 x] L (Option Addr×Nat) (fun s=> .tuple ⟨[.slice s.1 (iR l x).1.length s.2,.bool (iR l x).2]⟩) (fun s=>aN (.slice s.1 (iR l x).1.length s.2) (iR l x).1::L):=⟨fun {w W} hw=>by
 refine enter Tryz.func112 Tryz.ntmps112 rfl rfl fun a hs=>?_;refine sv hs hw fun a hs=>?_;refine sg hs hw (fun s a W hs hw=>?_) (g:=tJ (l:=l) (by omega));refine sv hs hw fun a hs=>?_;refine sn hs hw fun b a W hs hw=>?_;refine mW hs hw (Pick.hd:Pick (aN (.slice s.1 l.length s.2) l) _ _) (by omega) fun a ad cap W hs hw=>?_;have hlen:(l ++ [x]).length=l.length+1:=by simp
 have hpos:0<(l ++ [x]).length:=by omega
 have e:iR l x=match cV l && cV (dV (l ++ [x])) with|false=>([],false)|true=>(dV (l ++ [x]),true):=rfl
 rw [e];generalize l ++ [x]=m at *;obtain ⟨g,cur,rfl,hcur,hcl,hkc,hcm,hw⟩:=hw.open_own hpos;have hx:=yT hcur;rw [hx] at hw;have hxl:cur.length=m.length+(cur.drop m.length).length:=by rw [List.length_drop];omega
 generalize cur.drop m.length=ext at *;refine sv hs hw fun a hs=>?_;refine cl hs ((aHg m (by omega)).ok hw) fun a W hs hw=>?_;have hil:=yR m;have hw:Has 0 w W (aN (.slice (some ⟨g,0,none⟩) (dV m).length cap) (dV m)::L):=hw.shut_own (k:=(dV m).length) (size:=1) (cap:=cap) (xs:=cS (dV m)) (by rw [Nat.mul_one,show (dV m).length=(cS (dV m)).length by simp,List.take_left]) (by rw [List.length_append,List.length_map,hil];omega) (by omega) hcm;rw [←hil] at hs;refine sx hs hw fun a W hs hw=>?_;have drop:∀{W},Has 0 w W (aN (.slice (some ⟨g,0,none⟩) (dV m).length cap) (dV m)::L)→Has 0 w W (aN (.slice none 0 0) []::L):=fun h=>(h.d1).nilOwn 3 1;cases c1:cV l with
 |false=>
  rw [c1] at hs;refine sv hs hw fun a hs=>?_;exact rt2 hs rfl rfl rfl ⟨(none,0),rfl,drop hw⟩
 |true=>
 rw [c1] at hs;refine sx hs hw fun a W hs hw=>?_;cases c2:cV (dV m) with
 |false=>
  rw [c2] at hs;refine sv hs hw fun a hs=>?_;exact rt2 hs rfl rfl rfl ⟨(none,0),rfl,drop hw⟩
 |true=>
  rw [c2] at hs;refine sv hs hw fun a hs=>?_
  exact rt2 hs rfl rfl rfl ⟨(some ⟨g,0,none⟩,cap),rfl,hw⟩⟩
theorem aCW {b:Nat} {E:TypeId} {at_:List Int} (h8:at_.length=8) [c:dI (fun l=>aN sl l) L l L1] (i2:In (aA b (bU at_) E) L):Get Tryz.prog 293 [sl,.slice (some ⟨b,0,none⟩) 8 8] L (.int .i64 (tE l at_)) L:=⟨fun {w W} hw=>by
 have hr:∀{W},Has 0 w W L→Rd W 1 sl l.length (bU l):=fun h=>(h.pick c.p).rd_own In.hd;have hr2:∀{W},Has 0 w W L→Rd W 1 (.slice (some ⟨b,0,none⟩) 8 8) 8 (bU at_):=fun h=>h.rd_lit i2 (by rw [List.length_map,h8]) (by omega);obtain ⟨ad0,cap0,rfl⟩:=Has.own_slice (hw.pick c.p)
 let f:Int→Int:=fun x=>if x<(at_.length:Int) then nth at_ x else 0
 have e:tE l at_=match cV l with|false=>0|true=>nth (dV (l.map f)) (((l.length:Int) - 1).tdiv 2):=rfl
 rw [e];refine enter Tryz.func293 Tryz.ntmps293 rfl rfl fun a hs=>?_;refine sx hs hw fun a W hs hw=>?_;cases h:cV l with
 |false=>
  rw [h] at hs;refine sv hs hw fun a hs=>?_;exact rt1 hs rfl rfl ⟨rfl,hw⟩
 |true=>
 rw [h] at hs;have hmem:=aCT h;have h7:=qN h;have hpos:0<l.length:=by
  unfold cV at h;rw [Bool.and_eq_true] at h;have:=of_decide_eq_true h.2;omega
 refine sv hs hw fun a hs=>?_;have hw:Has 0 w W (yD (.slice none 0 0) []::L):=hw.nilOwn 2 1;refine bY (σ:=Nat×Option Addr×Nat) (fun u=>[(1,.slice (some ⟨b,0,none⟩) 8 8),(5,.slice u.2.1 ((l.take u.1).map f).length u.2.2),(12,.slice ad0 l.length cap0),(13,.int .i64 (l.length:Int)),(14,.int .i64 (u.1:Int))]) (fun u=>yD (.slice u.2.1 ((l.take u.1).map f).length u.2.2) ((l.take u.1).map f)::L) (fun u=>u.1≤l.length) (fun u=>l.length - u.1) (0,none,0) (Nat.zero_le _) hs ⟨rfl,rfl,rfl,rfl,rfl,trivial⟩ hw ?_;clear hs hw;rintro ⟨i,ad,cap⟩ a W hi hs hw;have hi:i≤l.length:=hi;simp only at hs hw;have sub1:∀{W A},Has 0 w W (A::L)→Has 0 w W L:=fun h=>h.d1;refine sv hs hw fun a hs=>?_;refine cI hs (kt:=fun hc=>?_) (kf:=fun hc=>?_)
 ·have hi':i<l.length:=by simpa using hc
  obtain ⟨o,ho,hd⟩:=dR hi';have hm:=hmem o (List.mem_of_getElem? ho);have hn:(l.take (i+1)).map f=(l.take i).map f ++ [nth at_ o]:=by rw [gB ho,List.map_append];simp [f,h8];omega
  have hk:((l.take i).map f).length≤7:=by rw [List.length_map,List.length_take];omega
  refine sc hs ?_;refine hQ hs (hr (sub1 hw)) ho rfl fun a b2 f2 hs=>?_;refine sv hs hw fun a hs=>?_;rw [show decide (o<((8:Nat):Int))=true from decide_eq_true (by omega)] at hs;refine sv hs hw fun a hs=>?_
  refine hQ (i:=o.toNat) (l:=at_) (u:=nth at_ o) hs (hr2 (sub1 hw)) (yL h8 (by omega)) h8 (hy:=by
   have:((o.toNat:Nat):Int)=o:=by omega
   rw [this];rfl) fun a b2 f2 hs=>?_
  refine sv hs hw fun a hs=>?_;refine sn hs hw fun b3 a W hs hw=>?_;refine mW hs hw (Pick.hd:Pick (yD (.slice ad ((l.take i).map f).length cap) ((l.take i).map f)) _ _) (by omega) fun a ad cap W hs hw=>?_;rw [←hn] at hs hw;refine sv hs hw fun a hs=>?_;exact bQ (i+1,ad,cap) hs hw hi' (by show l.length - (i+1)<l.length - i;omega) ⟨rfl,rfl,rfl,rfl,bR (i1 (by omega)),trivial⟩
 ·have:l.take i=l:=List.take_of_length_le (by simp at hc;omega);rw [this] at hs hw;have hml:(l.map f).length=l.length:=by simp
  generalize l.map f=m at *;obtain ⟨g,cur,rfl,hcur,hcl,hkc,hcm,hw⟩:=(show Has 0 w W (Sx.Own 2 1 (.slice ad m.length cap) m.length (bU m)::L) from hw).open_own (by omega);have hx:=yT hcur;rw [hx] at hw;have hxl:cur.length=m.length+(cur.drop m.length).length:=by rw [List.length_drop];omega
  generalize cur.drop m.length=ext at *;refine sv hs hw fun a hs=>?_;refine cl hs ((aHe m (by omega)).ok hw) fun a W hs hw=>?_;have hil:=yR m;generalize dV m=sm at *;refine sv hs hw fun a hs=>?_;obtain ⟨k,hk⟩:∃k:Nat,((l.length:Int) - 1).tdiv 2=(k:Int):=⟨(((l.length:Int) - 1).tdiv 2).toNat,by rw [Int.tdiv_eq_ediv_of_nonneg (by omega)];omega⟩
  have hkl:k<sm.length:=by rw [Int.tdiv_eq_ediv_of_nonneg (by omega)] at hk;omega
  rw [hml,show IntKind.i64.wrap ((IntKind.i64.wrap ((l.length:Int) - 1)).tdiv 2)=(k:Int) by rw [IntWalk.i64_in ((l.length:Int) - 1) (by omega),hk,IntWalk.i64_in _ (by omega)]] at hs;refine eF hs (h0:=by omega) (h1:=by omega) (c:=fun a hs=>?_);rw [Int.toNat_natCast] at hs;refine fY hs (hw:=hw) (hi:=In.hd) (hv:=rA (k:=k) (S:=sm) (ext:=ext) hkl) (k:=fun a hs=>?_);refine sv hs hw fun a hs=>?_;refine rt1 hs rfl rfl ⟨?_,sub1 hw⟩
  rw [hk];rfl⟩
end
end Go.Proofs.YtgpbngfehfbndaaGreatDoor.Sw
