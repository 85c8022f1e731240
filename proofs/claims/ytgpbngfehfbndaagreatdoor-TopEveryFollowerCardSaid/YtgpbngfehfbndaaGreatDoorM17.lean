/-
  Texts of the proof, one behind the other (part 17).
-/
import Derived.Test.YtgpbngfehfbndaaGreatDoorM10
import Derived.Test.YtgpbngfehfbndaaGreatDoorM15
import Derived.WalkKit
import Derived.WalkLawsBesides
import Derived.WalkSpells
import Derived.Lib.Hide
import Derived.Deep.QuietTactic
import Derived.BigQuiet
import Derived.Test.YtgpbngfehfbndaaGreatDoorChecked
import Derived.Laws.Bits64
import Derived.Laws.Bits64b
import Derived.Laws.BitsLemmas
import Derived.Laws.DeepNot64
import Derived.WalkSmall
import Derived.Deep.Draws
import Derived.Lib.ValidLaws
import Derived.Lib.MapLaws
import Derived.Lib.TrimUEq
import Derived.Lib.RuneBytes
import Derived.Laws.RangeAny
import Derived.Laws.Strings
import GoSem.Op.String
import Derived.Laws.StructEq
import Derived.IntWalk
import Derived.Shelf.Small.Bits
import Derived.Shelf.Strconv.Itoa0
import Derived.Ground.Names2Prog
import Derived.Shelf.Slices.Clone
import Derived.Shelf.Bytes.SlSearch0
import Derived.Ground.SlbCloneProg
import Derived.Shelf.Bytes.SlClone
import Derived.Shelf.Bytes.Small
import Derived.Shelf.Unicode.ValidAny
import Derived.Test.YtgpbngfehfbndaaGreatDoorProg
import Derived.Below
import Derived.Tactics
import Derived.RegionTactic
import Derived.Deep.AppendSrc
import Derived.Laws.AppendOwn
import Derived.Laws.BytesString
import Derived.Laws.Tables
import Derived.Laws.IdiomStrings
import Derived.Laws.Small
import Derived.Maps.RangeRun
import Derived.Deep.RegionHeld3
import Derived.DataShut
import Derived.Lib.UnsafeStr
import Derived.Deep.AppendLies
set_option maxHeartbeats 16000000
set_option linter.unusedVariables false
set_option maxRecDepth 10000
namespace Go.Proofs.YtgpbngfehfbndaaGreatDoor.Sw
open Go.RowKit Go.Sx
abbrev bU (l:List Int):List Value:=l.map fun x=>Value.int .i64 x
def aN (v:Value) (l:List Int):Res:=Sx.Own 3 1 v l.length (bU l)
def yD (v:Value) (l:List Int):Res:=Sx.Own 2 1 v l.length (bU l)
def bV (v:Value) (l:List cD):Res:=Sx.Own 137 4 v l.length (l.flatMap bD)
abbrev fG (s:eC):List Value:=[.int .i64 s.ix,.int .i64 s.term,.string s.conf,.string s.data]
def kR (l:LogD):Prop:=0≤l.s.ix∧l.s.ix≤1099511627776∧l.l.length≤200∧l.s.conf.size≤1000000∧∀e∈l.l,e.data.size≤1000000
abbrev eT (p:Nat) (s:eC) (v:Value):Res:=aA p [.int .i64 s.ix,.int .i64 s.term,.string s.conf,.string s.data,v] 203
def aH (p:Nat) (l:LogD):Res:=Ex fun v:Value=>eT p l.s v::bV v l.l::bO (kR l):: []
abbrev nG (p:Nat) (x y z:Value):Res:=aA p [x,y,z] 295
def gF (p:Nat) (v:VotesD):Res:=Ex fun x:Value×Value×Value=>nG p x.1 x.2.1 x.2.2::aN x.1 v.l::aN x.2.1 v.yes::aN x.2.2 v.no:: []
def gM (p:Nat) (t:TrackD):Res:=Ex fun _:Unit=>aA p (bU t.next ++ bU t.mat) 340::bO (t.next.length=8∧t.mat.length=8):: []
section
variable {G p:Nat} {w W:World} {R:List Res} {l:LogD} {v:Value} {vt:VotesD} {x y z:Value} {t:TrackD}
theorem iD (h:Has G w W (eT p l.s v::bV v l.l::R)) (hl:kR l):Has G w W (aH p l::R):=Has.shut v ((h.fact hl).pm)
theorem iU (h:Has G w W (aH p l::R)):kR l∧∃ad cap,Has G w W (eT p l.s (.slice ad l.l.length cap)::bV (.slice ad l.l.length cap) l.l::R):=by
 obtain ⟨v,h⟩:=Has.open h;have h:Has G w W (eT p l.s v::bV v l.l::bO (kR l)::R):=h;have h2:Has G w W (bV v l.l::eT p l.s v::R):=h.sl;obtain ⟨ad,cap,rfl⟩:=Has.own_slice h2;exact ⟨h.told (In.tl (In.tl In.hd)),ad,cap,h2.swap2⟩
theorem kS (h:Has G w W (nG p x y z::aN x vt.l::aN y vt.yes::aN z vt.no::R)):Has G w W (gF p vt::R):=Has.shut (x,y,z) h
theorem qM (h:Has G w W (gF p vt::R)):∃ad cap ad2 cap2 ad3 cap3,Has G w W (nG p (.slice ad vt.l.length cap) (.slice ad2 vt.yes.length cap2) (.slice ad3 vt.no.length cap3)::aN (.slice ad vt.l.length cap) vt.l::aN (.slice ad2 vt.yes.length cap2) vt.yes::aN (.slice ad3 vt.no.length cap3) vt.no::R):=by
 obtain ⟨⟨x,y,z⟩,h⟩:=Has.open h;have h:Has G w W (nG p x y z::aN x vt.l::aN y vt.yes::aN z vt.no::R):=h;obtain ⟨ad,cap,rfl⟩:=Has.own_slice (h.pm:Has G w W (aN x vt.l::nG p x y z::aN y vt.yes::aN z vt.no::R));obtain ⟨ad2,cap2,rfl⟩:=Has.own_slice (h.pm:Has G w W (aN y vt.yes::nG p (.slice ad vt.l.length cap) y z::aN (.slice ad vt.l.length cap) vt.l::aN z vt.no::R));obtain ⟨ad3,cap3,rfl⟩:=Has.own_slice (h.pm:Has G w W (aN z vt.no::nG p (.slice ad vt.l.length cap) (.slice ad2 vt.yes.length cap2) z::aN (.slice ad vt.l.length cap) vt.l::aN (.slice ad2 vt.yes.length cap2) vt.yes::R));exact ⟨ad,cap,ad2,cap2,ad3,cap3,h⟩
theorem iV (h:Has G w W (aA p (bU t.next ++ bU t.mat) 340::R)) (hl:t.next.length=8∧t.mat.length=8):Has G w W (gM p t::R):=Has.shut () ((h.fact hl).pm)
theorem oM (h:Has G w W (gM p t::R)):(t.next.length=8∧t.mat.length=8)∧Has G w W (aA p (bU t.next ++ bU t.mat) 340::R):=by
 obtain ⟨_,h⟩:=Has.open h;have h:Has G w W (aA p (bU t.next ++ bU t.mat) 340::bO (t.next.length=8∧t.mat.length=8)::R):=h;exact ⟨h.told (In.tl In.hd),h.sl⟩
end
theorem aGy (l:List Int) (v:Value) (x:Int) (w:World) (r:Rd w 1 v l.length (bU l)):
  Calls Tryz.prog 263 ⟨[v,.int .i64 x]⟩ w fun e w'=>(∃j:Int,e= .returned (.int .i64 j)∧decide (j≥0)=has l x)∧Below w.heap.size w w':=by
 have hw:=Has.start (G:=0) (w:=w) (Nat.zero_le _);have hlen:=r.len;obtain ⟨ad,cap,rfl⟩:∃ad cap,v= .slice ad l.length cap:=by obtain ⟨_,ad,cap,e,_⟩:=r;exact ⟨ad,cap,e⟩
 refine enter Tryz.func263 Tryz.ntmps263 rfl rfl fun a hs=>?_;refine sv hs hw fun a hs=>?_;refine bY (σ:=Nat) (fun i=>[(0,.slice ad l.length cap),(1,.int .i64 x),(7,.int .i64 (l.length:Int)),(8,.int .i64 (i:Int))]) (fun _=>Old w 0:: []) (fun i=>i≤l.length∧has l x=has (l.drop i) x) (fun i=>l.length - i) 0 ⟨Nat.zero_le _,rfl⟩ hs ⟨rfl,rfl,rfl,rfl,trivial⟩ hw ?_;clear hs hw;rintro i a W ⟨hi,hh⟩ hs hw;refine sv hs hw fun a hs=>?_;refine cI hs (kt:=fun hc=>?_) (kf:=fun hc=>?_)
 ·have hi':i<l.length:=by simpa using hc
  obtain ⟨o,ho,hd⟩:=dR hi';refine sv hs hw fun a hs=>?_;refine hQ hs (hw.rd inn hw.ext.size r) ho rfl fun a b f hs=>?_;refine sv hs hw fun a hs=>?_;rw [hd] at hh;cases c:(x == o) with
  |true=>
   rw [c] at hs;refine sv hs hw fun a hs=>?_;exact rt1 hs rfl rfl ⟨⟨(i:Int),rfl,by rw [hh];simp at c;simp [has,c]⟩,hw.end inn⟩
  |false=>
   rw [c] at hs;refine sv hs hw fun a hs=>?_;exact bQ (i+1) hs hw ⟨hi',by rw [hh];simp at c;simp [has,Ne.symm c]⟩ (by omega) ⟨rfl,rfl,rfl,bR (i1 (by omega)),trivial⟩
 ·have:l.drop i= []:=List.drop_eq_nil_of_le (by simp at hc;omega);refine sv hs hw fun a hs=>?_;exact rt1 hs rfl rfl ⟨⟨-1,rfl,by rw [hh,this];rfl⟩,hw.end inn⟩
theorem aBu (l:List Int) (v:Value) (x:Int) (w:World) (r:Rd w 1 v l.length (bU l)):
  Calls Tryz.prog 131 ⟨[v,.int .i64 x]⟩ w fun e w'=>e= .returned (.bool (has l x))∧Below w.heap.size w w':=by
 have hw:=Has.start (G:=0) (w:=w) (Nat.zero_le _);refine enter Tryz.func131 Tryz.ntmps131 rfl rfl fun a hs=>?_;refine sv hs hw fun a hs=>?_;have hc:Calls Tryz.prog 207 ⟨[v,.int .i64 x]⟩ w fun e w'=>e= .returned (.bool (has l x))∧Below w.heap.size w w':=by
  clear hs hw;have hw:=Has.start (G:=0) (w:=w) (Nat.zero_le _);refine enter Tryz.func207 Tryz.ntmps207 rfl rfl fun a hs=>?_;refine sv hs hw fun a hs=>?_;refine aG hs (hc:=aGy l v x _ (hw.rd inn hw.ext.size r)) (k:=?_);rintro e w' ⟨⟨j,rfl,hj⟩,hb⟩;refine ⟨_,rfl,fun a hs=>?_⟩;have hw:=hw.below hb;refine sv hs hw fun a hs=>?_;exact rt1 hs rfl rfl ⟨by rw [hj],hw.end inn⟩
 refine cb hs hw hc fun a W hs hw=>?_;refine sv hs hw fun a hs=>?_;exact rt1 hs rfl rfl ⟨rfl,hw.end inn⟩
def nJ (l:List Int) (i:Nat):Option Int:=match i with|0=>none|j+1=>l[j]?
theorem aBv (l:List Int) (v:Value) (w:World) (r:Rd w 1 v l.length (bU l)):
  Calls Tryz.prog 85 ⟨[v]⟩ w fun e w'=>e= .returned (.bool (cV l))∧Below w.heap.size w w':=by
 have hw:=Has.start (G:=0) (w:=w) (Nat.zero_le _);have hlen:=r.len;obtain ⟨ad,cap,rfl⟩:∃ad cap,v= .slice ad l.length cap:=by obtain ⟨_,ad,cap,e,_⟩:=r;exact ⟨ad,cap,e⟩
 refine enter Tryz.func85 Tryz.ntmps85 rfl rfl fun a hs=>?_;refine sv hs hw fun a hs=>?_;refine bY (σ:=Nat) (fun i=>[(0,.slice ad l.length cap),(5,.slice ad l.length cap),(6,.int .i64 (l.length:Int)),(7,.int .i64 (i:Int))]) (fun _=>Old w 0:: []) (fun i=>i≤l.length∧fP none l=fP (nJ l i) (l.drop i)) (fun i=>l.length - i) 0 ⟨Nat.zero_le _,rfl⟩ hs ⟨rfl,rfl,rfl,rfl,trivial⟩ hw ?_;clear hs hw;rintro i a W ⟨hi,hh⟩ hs hw;refine sv hs hw fun a hs=>?_;refine cI hs (kt:=fun hc=>?_) (kf:=fun hc=>?_)
 ·have hi':i<l.length:=by simpa using hc
  obtain ⟨o,ho,hd⟩:=dR hi';refine sv hs hw fun a hs=>?_;refine hQ hs (hw.rd inn hw.ext.size r) ho rfl fun a b f hs=>?_;refine sv hs hw fun a hs=>?_;rw [hd] at hh;have hnext:nJ l (i+1)=some o:=ho;cases c1:decide (o<1) with
  |true=>
   rw [c1] at hs;refine sv hs hw fun a hs=>?_;exact rt1 hs rfl rfl ⟨by unfold cV;rw [hh];cases nJ l i <;> simp [fP,c1],hw.end inn⟩
  |false=>
  rw [c1] at hs;refine sv hs hw fun a hs=>?_;cases c2:decide (o > 7) with
  |true=>
   rw [c2] at hs;refine sv hs hw fun a hs=>?_;exact rt1 hs rfl rfl ⟨by unfold cV;rw [hh];cases nJ l i <;> simp [fP,c2],hw.end inn⟩
  |false=>
  rw [c2] at hs;refine sv hs hw fun a hs=>?_;cases i with
  |zero=>
   refine sv hs hw fun a hs=>?_;exact bQ 1 hs hw ⟨hi',by rw [hh,hnext];simp [nJ,fP,c1,c2]⟩ (by omega) ⟨rfl,rfl,rfl,bR (i1 (by omega)),trivial⟩
  |succ j=>
   obtain ⟨y,hy,_⟩:=dR (show j<l.length by omega);rw [show nJ l (j+1)=some y from hy] at hh;rw [show decide (((j+1:Nat):Int) > 0)=true from decide_eq_true (by omega)] at hs;refine sv hs hw fun a hs=>?_;rw [show IntKind.i64.wrap (((j+1:Nat):Int) - 1)=(j:Int) by rw [IntWalk.i64_in _ (by omega)];omega] at hs;refine gA hs (hw.rd inn hw.ext.size r) II.len (sO l) hy rfl (c:=fun a b f c hc hcl hpc hlt hs=>?_);obtain rfl:c=_:=hc;refine sE hs (c:=?_);refine eN hs (hc:=hpc 0 _ rfl) (c:=fun a hs=>?_);refine sv hs hw fun a hs=>?_;cases c3:decide (y≥o) with
   |true=>
    rw [c3] at hs;refine sv hs hw fun a hs=>?_;exact rt1 hs rfl rfl ⟨by unfold cV;rw [hh];simp [fP,c3],hw.end inn⟩
   |false=>
    rw [c3] at hs;refine sv hs hw fun a hs=>?_;exact bQ (j+2) hs hw ⟨hi',by rw [hh,hnext];simp [fP,c1,c2,c3]⟩ (by omega) ⟨rfl,rfl,rfl,bR (i1 (by omega)),trivial⟩
 ·have:l.drop i= []:=List.drop_eq_nil_of_le (by simp at hc;omega);refine sv hs hw fun a hs=>?_;refine rt1 hs rfl rfl ⟨?_,hw.end inn⟩;unfold cV;rw [hh,this];cases nJ l i <;> rfl
abbrev cS (l:List Int):List Value:=l.map fun x=>Value.int .i64 x
theorem yQ (S:List Int) (j:Nat):(nB S j).length=S.length:=by simp [nB]
theorem aCQ:∀(j:Nat) (S:List Int),(gK j S).length=S.length
 |0,_=>rfl
 |j+1,S=>by
  unfold gK;split
  ·rw [aCQ j,yQ]
  ·rfl
theorem aCR:∀(f i:Nat) (S:List Int),(iQ f i S).length=S.length
 |0,_,_=>rfl
 |f+1,i,S=>by rw [iQ,aCR f,aCQ]
theorem yR (l:List Int):(dV l).length=l.length:=aCR _ _ _
theorem tT {S:List Int} {ext:List Value} {k:Nat} {v:Int} (h:k<S.length):ov (cS S ++ ext) (0+k*1) [.int .i64 v]=cS (S.set k v) ++ ext:=by
 have h2:0+k*1+ [Value.int .i64 v].length≤(cS S ++ ext).length:=by simp;omega
 rw [kC _ _ _ h2,show 0+k*1=k by omega];have e:(cS S ++ ext).set k (Value.int .i64 v)=_:=List.set_eq_take_append_cons_drop;rw [if_pos (by simp;omega)] at e;rw [List.append_assoc,List.length_singleton];rw [show [Value.int IntKind.i64 v] ++ List.drop (k+1) (cS S ++ ext)=Value.int IntKind.i64 v::List.drop (k+1) (cS S ++ ext) from rfl,←e,List.set_append_left _ _ (by simp;omega)];simp [List.map_set]
theorem rA {S:List Int} {ext:List Value} {k:Nat} (h:k<S.length):(cS S ++ ext)[0+k*1]? =some (.int .i64 (S.getD k 0)):=by
 rw [show 0+k*1=k by omega,List.getElem?_append_left (by simp;omega),List.getElem?_map,List.getD_eq_getElem?_getD,List.getElem?_eq_getElem h];rfl
theorem aCS (f:Nat) {i:Nat} {S:List Int} (h:f=0):iQ f i S=S:=by subst h;rfl
instance less_int64 {x y:Int} {L:List Res}:Get Tryz.prog 328 [.int .i64 x,.int .i64 y] L (.bool (decide (x<y))) L:=⟨fun {w W} hw=>by
 have h1:(x !=x)=false:=by simp
 have hn:∀{a:Act} {z:Int},Calls Tryz.prog 334 ⟨[.int .i64 z]⟩ W fun e W'=>e= .returned (.bool false)∧Has 0 w W' L:=by
  intro _ z;refine enter Tryz.func334 Tryz.ntmps334 rfl rfl fun a hs=>?_;refine sv hs hw fun a hs=>?_;rw [show (z !=z)=false by simp] at hs;exact rt1 hs rfl rfl ⟨rfl,hw⟩
 refine enter Tryz.func328 Tryz.ntmps328 rfl rfl fun a hs=>?_;refine sv hs hw fun a hs=>?_;refine cl hs (hn (a:=a)) fun a W hs hw=>?_;refine sv hs hw fun a hs=>?_
 exact rt1 hs rfl rfl ⟨rfl,hw⟩⟩
theorem aHd {g cap n:Nat} {L:List Res} {ext:List Value} (l:List Int) (hn:l.length=n) (hl:n≤12):Get Tryz.prog 322 [.slice (some ⟨g,0,none⟩) n cap,.int .i64 0,.int .i64 (n:Int)] (aA g (cS l ++ ext) 2::L) (.tuple ⟨[]⟩) (aA g (cS (dV l) ++ ext) 2::L):=⟨fun {w W} hw=>by
 refine enter Tryz.func322 Tryz.ntmps322 rfl rfl fun a hs=>?_;refine sv hs hw fun a hs=>?_;refine bY (σ:=Nat×List Int) (fun q=>[(0,.slice (some ⟨g,0,none⟩) n cap),(1,.int .i64 0),(2,.int .i64 (n:Int)),(6,.int .i64 (q.1:Int))]) (fun q=>aA g (cS q.2 ++ ext) 2::L) (fun q=>1≤q.1∧q.1≤n+1∧q.2.length=n∧dV l=iQ (n - q.1) q.1 q.2) (fun q=>n+1 - q.1) (1,l) ⟨Nat.le_refl _,by omega,hn,by unfold dV;rw [hn]⟩ hs ⟨rfl,rfl,rfl,rfl,trivial⟩ hw ?_;clear hs hw;rintro ⟨i,S⟩ a W ⟨h1,h2,h3,h4⟩ hs hw;simp only at h1 h2 h3 h4 hs hw;refine sv hs hw fun a hs=>?_;refine cI hs (kt:=fun hc=>?_) (kf:=fun hc=>?_)
 ·have hi:i<n:=by simpa using hc
  have h5:dV l=iQ (n - (i+1)) (i+1) (gK i S):=by rw [h4,show n - i=(n - (i+1))+1 by omega];rfl
  refine sv hs hw fun a hs=>?_;refine bY (σ:=Nat×List Int) (fun q=>[(0,.slice (some ⟨g,0,none⟩) n cap),(1,.int .i64 0),(2,.int .i64 (n:Int)),(6,.int .i64 (i:Int)),(7,.int .i64 (q.1:Int))]) (fun q=>aA g (cS q.2 ++ ext) 2::L) (fun q=>q.1≤i∧q.2.length=n∧gK i S=gK q.1 q.2) (fun q=>q.1) (i,S) ⟨Nat.le_refl _,h3,rfl⟩ hs ⟨rfl,rfl,rfl,rfl,rfl,trivial⟩ hw ?_;clear hs hw;rintro ⟨j,S'⟩ a W ⟨g1,g2,g3⟩ hs hw;simp only at g1 g2 g3 hs hw;have out:∀{a:Act} {W:World} {T:List (Nat×Value)},gK i S=S'→Slots a 49 T→lk T 0=some (.slice (some ⟨g,0,none⟩) n cap)→lk T 1=some (.int .i64 0)→lk T 2=some (.int .i64 (n:Int))→lk T 6=some (.int .i64 (IntKind.i64.wrap ((i:Int)+1)))→Has 0 w W (aA g (cS S' ++ ext) 2::L)→∃s':Nat×List Int,(1≤s'.1∧s'.1≤n+1∧s'.2.length=n∧dV l=iQ (n - s'.1) s'.1 s'.2)∧n+1 - s'.1<n+1 - i∧Slots a 49 [(0,.slice (some ⟨g,0,none⟩) n cap),(1,.int .i64 0),(2,.int .i64 (n:Int)),(6,.int .i64 (s'.1:Int))]∧Has 0 w W (aA g (cS s'.2 ++ ext) 2::L):=by
   intro a W T e hs k0 k1 k2 k6 hw;exact ⟨(i+1,S'),⟨by show 1≤i+1;omega,by show i+1≤n+1;omega,g2,by rw [h5,e]⟩,by show n+1 - (i+1)<n+1 - i;omega,hs.of ⟨k0,k1,k2,by rw [k6];exact bR (i1 (by omega)),trivial⟩,hw⟩
  cases j with
  |zero=>
   refine zG hs ?_;refine rgp [_,_,_,_,_,_,_,_,_,_,_,_,_,_,_] hs hw fun a W hs hw=>?_;refine sv hs hw fun a hs=>?_;exact out g3 hs rfl rfl rfl rfl hw
  |succ j=>
   have he:decide (((j+1:Nat):Int) > 0)=true:=decide_eq_true (by omega);have ej:IntKind.i64.wrap (((j+1:Nat):Int) - 1)=(j:Int):=by rw [IntWalk.i64_in _ (by omega)];omega
   have hk0:(0:Int)≤((j+1:Nat):Int):=by omega
   have hk1:((j+1:Nat):Int)<(n:Int):=by omega
   have hk2:(0:Int)≤IntKind.i64.wrap (((j+1:Nat):Int) - 1):=by rw [ej];omega
   have hk3:IntKind.i64.wrap (((j+1:Nat):Int) - 1)<(n:Int):=by rw [ej];omega
   have hl1:(cS S' ++ ext)[0+((j+1:Nat):Int).toNat*1]? =some (.int .i64 (S'.getD (j+1) 0)):=rA (by omega);have hl2:(cS S' ++ ext)[0+(IntKind.i64.wrap (((j+1:Nat):Int) - 1)).toNat*1]? =some (.int .i64 (S'.getD j 0)):=by rw [ej];exact rA (by omega)
   have hsk:gK (j+1) S'=match decide (S'.getD (j+1) 0<S'.getD j 0) with|true=>gK j (nB S' j)|false=>S':=rfl
   refine zG hs ?_;refine rgq [_,_,_,_,_,_,_,_,_,_,_,_,_,_,_] hs hw fun a W hs hw=>?_;replace hs:Slots a 49 [(30,.bool (decide (S'.getD (j+1) 0<S'.getD j 0))),(0,.slice (some ⟨g,0,none⟩) n cap),(1,.int .i64 0),(2,.int .i64 (n:Int)),(6,.int .i64 (i:Int)),(7,.int .i64 ((j+1:Nat):Int))]:=hs.ot;cases c:decide (S'.getD (j+1) 0<S'.getD j 0) with
   |false=>
    rw [c] at hs hsk;refine sv hs hw fun a hs=>?_;exact out (g3.trans hsk) hs rfl rfl rfl rfl hw
   |true=>
    rw [c] at hs hsk;refine zG hs ?_;have hl3:Nat.ble (0+((j+1:Nat):Int).toNat*1+ [Value.int .i64 (S'.getD j 0)].length) (cS S' ++ ext).length=true:=Nat.ble_eq_true_of_le (by simp;omega);have hl4:Nat.ble (0+(IntKind.i64.wrap (((j+1:Nat):Int) - 1)).toNat*1+ [Value.int .i64 (S'.getD (j+1) 0)].length) (ov (cS S' ++ ext) (0+((j+1:Nat):Int).toNat*1) [.int .i64 (S'.getD j 0)]).length=true:=Nat.ble_eq_true_of_le (by rw [mR,ej];simp;omega);refine bG [15,17] [.f 0 0,.f 0 0,.f 0 1,.f 0 1,.f 0 1,.f 0 0,.f 0 0,.f 0 0,.f 0 0,.f 0 0,.f 0 0,.f 0 0,.f 0 0,.f 0 0,.f 0 0,.m 0,.f 1 1,.m 1] [.c0 _,.c0 _,.c0 _,.c0 _,.c0 _,.c0 _,.c0 _,.c0 _,.c0 _,.c0 _,.c0 _,.c0 _,.c0 _,.c0 _,.c0 _,.c1 (fun x=>undef),.c1 _,.c2 (fun x y=>undef)] (aA g (cS S' ++ ext) 2::L) (fun x=>aA g (ov (cS S' ++ ext) (0+((j+1:Nat):Int).toNat*1) [.int .i64 (S'.getD j 0)]) 2::L) (fun x y=>aA g (ov (ov (cS S' ++ ext) (0+((j+1:Nat):Int).toNat*1) [.int .i64 (S'.getD j 0)]) (0+(IntKind.i64.wrap (((j+1:Nat):Int) - 1)).toNat*1) [.int .i64 (S'.getD (j+1) 0)]) 2::L) (fun x y z=>[]) (fun x y z t=>[]) hs hw ?kk ⟨drs,drs,drs,drs,drs,drs,drs,drs,drs,drs,drs,drs,drs,drs,drs,drm,drs,drm,trivial⟩
    case kk=>
     intro _ _ a W hs hw;rw [ej,Int.toNat_natCast,Int.toNat_natCast,tT (by omega),tT (by rw [List.length_set];omega)] at hw;replace hs:Slots a 49 [(0,.slice (some ⟨g,0,none⟩) n cap),(1,.int .i64 0),(2,.int .i64 (n:Int)),(6,.int .i64 (i:Int)),(7,.int .i64 ((j+1:Nat):Int))]:=hs.ot;refine sv hs hw fun a hs=>?_;exact bQ (j,nB S' j) hs hw ⟨by show j≤i;omega,by rw [yQ];exact g2,g3.trans hsk⟩ (by show j<j+1;omega) ⟨rfl,rfl,rfl,rfl,bR ej,trivial⟩
 ·have h6:iQ (n - i) i S=S:=aCS _ (by simp at hc;omega);rw [h6] at h4;rw [h4];refine sc hs ?_
  exact cP hs rfl ⟨rfl,hw⟩⟩
theorem aHe {g cap:Nat} {L:List Res} {ext:List Value} (l:List Int) (hl:l.length≤12):Get Tryz.prog 312 [.slice (some ⟨g,0,none⟩) l.length cap] (aA g (cS l ++ ext) 2::L) (.tuple ⟨[]⟩) (aA g (cS (dV l) ++ ext) 2::L):=⟨fun {w W} hw=>by
 have hp:∀{W:World} {q:Int},Has 0 w W (aA g (cS l ++ ext) 2::L)→Calls Tryz.prog 319 ⟨[.slice (some ⟨g,0,none⟩) l.length cap,.int .i64 0,.int .i64 (l.length:Int),.int .i64 q]⟩ W fun e W'=>e= .returned (.tuple ⟨[]⟩)∧Has 0 w W' (aA g (cS (dV l) ++ ext) 2::L):=by
  intro W q hw;refine enter Tryz.func319 Tryz.ntmps319 rfl rfl fun a hs=>?_;refine sv hs hw fun a hs=>?_;refine bY (σ:=Unit) (fun _=>[(0,.slice (some ⟨g,0,none⟩) l.length cap),(1,.int .i64 0),(2,.int .i64 (l.length:Int))]) (fun _=>aA g (cS l ++ ext) 2::L) (fun _=>True) (fun _=>0) () trivial hs ⟨rfl,rfl,rfl,trivial⟩ hw ?_;clear hs hw;intro _ a W _ hs hw;refine sv hs hw fun a hs=>?_;rw [show decide (IntKind.i64.wrap ((l.length:Int) - 0)≤12)=true from decide_eq_true (by rw [IntWalk.i64_in _ (by omega)];omega)] at hs;refine sv hs hw fun a hs=>?_;refine cl hs ((aHd l rfl hl).ok hw) fun a W hs hw=>?_;refine sc hs ?_
  first
   |exact rt0 hs rfl ⟨rfl,hw⟩
   |exact cP hs rfl ⟨rfl,hw⟩
 refine enter Tryz.func312 Tryz.ntmps312 rfl rfl fun a hs=>?_;refine sv hs hw fun a hs=>?_;refine aG hs (hc:=Tryz.bits_Len (IntKind.u64.wrap (l.length:Int)) W (by rw [IntKind.wrap_u64];omega) (by rw [IntKind.wrap_u64];omega)) (k:=?_);rintro e W' ⟨rfl,rfl⟩;refine ⟨_,rfl,fun a hs=>?_⟩;refine cl hs (hp hw) fun a W hs hw=>?_;refine sc hs ?_
 exact cP hs rfl ⟨rfl,hw⟩⟩
instance less_int {x y:Int} {L:List Res}:Get Tryz.prog 288 [.int .i64 x,.int .i64 y] L (.bool (decide (x<y))) L:=⟨fun {w W} hw=>by
 have h1:(x !=x)=false:=by simp
 have hn:∀{a:Act} {z:Int},Calls Tryz.prog 311 ⟨[.int .i64 z]⟩ W fun e W'=>e= .returned (.bool false)∧Has 0 w W' L:=by
  intro _ z;refine enter Tryz.func311 Tryz.ntmps311 rfl rfl fun a hs=>?_;refine sv hs hw fun a hs=>?_;rw [show (z !=z)=false by simp] at hs;exact rt1 hs rfl rfl ⟨rfl,hw⟩
 refine enter Tryz.func288 Tryz.ntmps288 rfl rfl fun a hs=>?_;refine sv hs hw fun a hs=>?_;refine cl hs (hn (a:=a)) fun a W hs hw=>?_;refine sv hs hw fun a hs=>?_
 exact rt1 hs rfl rfl ⟨rfl,hw⟩⟩
theorem aHf {g cap n:Nat} {L:List Res} {ext:List Value} (l:List Int) (hn:l.length=n) (hl:n≤12):Get Tryz.prog 282 [.slice (some ⟨g,0,none⟩) n cap,.int .i64 0,.int .i64 (n:Int)] (aA g (cS l ++ ext) 3::L) (.tuple ⟨[]⟩) (aA g (cS (dV l) ++ ext) 3::L):=⟨fun {w W} hw=>by
 refine enter Tryz.func282 Tryz.ntmps282 rfl rfl fun a hs=>?_;refine sv hs hw fun a hs=>?_;refine bY (σ:=Nat×List Int) (fun q=>[(0,.slice (some ⟨g,0,none⟩) n cap),(1,.int .i64 0),(2,.int .i64 (n:Int)),(6,.int .i64 (q.1:Int))]) (fun q=>aA g (cS q.2 ++ ext) 3::L) (fun q=>1≤q.1∧q.1≤n+1∧q.2.length=n∧dV l=iQ (n - q.1) q.1 q.2) (fun q=>n+1 - q.1) (1,l) ⟨Nat.le_refl _,by omega,hn,by unfold dV;rw [hn]⟩ hs ⟨rfl,rfl,rfl,rfl,trivial⟩ hw ?_;clear hs hw;rintro ⟨i,S⟩ a W ⟨h1,h2,h3,h4⟩ hs hw;simp only at h1 h2 h3 h4 hs hw;refine sv hs hw fun a hs=>?_;refine cI hs (kt:=fun hc=>?_) (kf:=fun hc=>?_)
 ·have hi:i<n:=by simpa using hc
  have h5:dV l=iQ (n - (i+1)) (i+1) (gK i S):=by rw [h4,show n - i=(n - (i+1))+1 by omega];rfl
  refine sv hs hw fun a hs=>?_;refine bY (σ:=Nat×List Int) (fun q=>[(0,.slice (some ⟨g,0,none⟩) n cap),(1,.int .i64 0),(2,.int .i64 (n:Int)),(6,.int .i64 (i:Int)),(7,.int .i64 (q.1:Int))]) (fun q=>aA g (cS q.2 ++ ext) 3::L) (fun q=>q.1≤i∧q.2.length=n∧gK i S=gK q.1 q.2) (fun q=>q.1) (i,S) ⟨Nat.le_refl _,h3,rfl⟩ hs ⟨rfl,rfl,rfl,rfl,rfl,trivial⟩ hw ?_;clear hs hw;rintro ⟨j,S'⟩ a W ⟨g1,g2,g3⟩ hs hw;simp only at g1 g2 g3 hs hw;have out:∀{a:Act} {W:World} {T:List (Nat×Value)},gK i S=S'→Slots a 49 T→lk T 0=some (.slice (some ⟨g,0,none⟩) n cap)→lk T 1=some (.int .i64 0)→lk T 2=some (.int .i64 (n:Int))→lk T 6=some (.int .i64 (IntKind.i64.wrap ((i:Int)+1)))→Has 0 w W (aA g (cS S' ++ ext) 3::L)→∃s':Nat×List Int,(1≤s'.1∧s'.1≤n+1∧s'.2.length=n∧dV l=iQ (n - s'.1) s'.1 s'.2)∧n+1 - s'.1<n+1 - i∧Slots a 49 [(0,.slice (some ⟨g,0,none⟩) n cap),(1,.int .i64 0),(2,.int .i64 (n:Int)),(6,.int .i64 (s'.1:Int))]∧Has 0 w W (aA g (cS s'.2 ++ ext) 3::L):=by
   intro a W T e hs k0 k1 k2 k6 hw;exact ⟨(i+1,S'),⟨by show 1≤i+1;omega,by show i+1≤n+1;omega,g2,by rw [h5,e]⟩,by show n+1 - (i+1)<n+1 - i;omega,hs.of ⟨k0,k1,k2,by rw [k6];exact bR (i1 (by omega)),trivial⟩,hw⟩
  cases j with
  |zero=>
   refine zG hs ?_;refine rgp [_,_,_,_,_,_,_,_,_,_,_,_,_,_,_] hs hw fun a W hs hw=>?_;refine sv hs hw fun a hs=>?_;exact out g3 hs rfl rfl rfl rfl hw
  |succ j=>
   have he:decide (((j+1:Nat):Int) > 0)=true:=decide_eq_true (by omega);have ej:IntKind.i64.wrap (((j+1:Nat):Int) - 1)=(j:Int):=by rw [IntWalk.i64_in _ (by omega)];omega
   have hk0:(0:Int)≤((j+1:Nat):Int):=by omega
   have hk1:((j+1:Nat):Int)<(n:Int):=by omega
   have hk2:(0:Int)≤IntKind.i64.wrap (((j+1:Nat):Int) - 1):=by rw [ej];omega
   have hk3:IntKind.i64.wrap (((j+1:Nat):Int) - 1)<(n:Int):=by rw [ej];omega
   have hl1:(cS S' ++ ext)[0+((j+1:Nat):Int).toNat*1]? =some (.int .i64 (S'.getD (j+1) 0)):=rA (by omega);have hl2:(cS S' ++ ext)[0+(IntKind.i64.wrap (((j+1:Nat):Int) - 1)).toNat*1]? =some (.int .i64 (S'.getD j 0)):=by rw [ej];exact rA (by omega)
   have hsk:gK (j+1) S'=match decide (S'.getD (j+1) 0<S'.getD j 0) with|true=>gK j (nB S' j)|false=>S':=rfl
   refine zG hs ?_;refine rgq [_,_,_,_,_,_,_,_,_,_,_,_,_,_,_] hs hw fun a W hs hw=>?_;replace hs:Slots a 49 [(30,.bool (decide (S'.getD (j+1) 0<S'.getD j 0))),(0,.slice (some ⟨g,0,none⟩) n cap),(1,.int .i64 0),(2,.int .i64 (n:Int)),(6,.int .i64 (i:Int)),(7,.int .i64 ((j+1:Nat):Int))]:=hs.ot;cases c:decide (S'.getD (j+1) 0<S'.getD j 0) with
   |false=>
    rw [c] at hs hsk;refine sv hs hw fun a hs=>?_;exact out (g3.trans hsk) hs rfl rfl rfl rfl hw
   |true=>
    rw [c] at hs hsk;refine zG hs ?_;have hl3:Nat.ble (0+((j+1:Nat):Int).toNat*1+ [Value.int .i64 (S'.getD j 0)].length) (cS S' ++ ext).length=true:=Nat.ble_eq_true_of_le (by simp;omega);have hl4:Nat.ble (0+(IntKind.i64.wrap (((j+1:Nat):Int) - 1)).toNat*1+ [Value.int .i64 (S'.getD (j+1) 0)].length) (ov (cS S' ++ ext) (0+((j+1:Nat):Int).toNat*1) [.int .i64 (S'.getD j 0)]).length=true:=Nat.ble_eq_true_of_le (by rw [mR,ej];simp;omega);refine bG [15,17] [.f 0 0,.f 0 0,.f 0 1,.f 0 1,.f 0 1,.f 0 0,.f 0 0,.f 0 0,.f 0 0,.f 0 0,.f 0 0,.f 0 0,.f 0 0,.f 0 0,.f 0 0,.m 0,.f 1 1,.m 1] [.c0 _,.c0 _,.c0 _,.c0 _,.c0 _,.c0 _,.c0 _,.c0 _,.c0 _,.c0 _,.c0 _,.c0 _,.c0 _,.c0 _,.c0 _,.c1 (fun x=>undef),.c1 _,.c2 (fun x y=>undef)] (aA g (cS S' ++ ext) 3::L) (fun x=>aA g (ov (cS S' ++ ext) (0+((j+1:Nat):Int).toNat*1) [.int .i64 (S'.getD j 0)]) 3::L) (fun x y=>aA g (ov (ov (cS S' ++ ext) (0+((j+1:Nat):Int).toNat*1) [.int .i64 (S'.getD j 0)]) (0+(IntKind.i64.wrap (((j+1:Nat):Int) - 1)).toNat*1) [.int .i64 (S'.getD (j+1) 0)]) 3::L) (fun x y z=>[]) (fun x y z t=>[]) hs hw ?kk ⟨drs,drs,drs,drs,drs,drs,drs,drs,drs,drs,drs,drs,drs,drs,drs,drm,drs,drm,trivial⟩
    case kk=>
     intro _ _ a W hs hw;rw [ej,Int.toNat_natCast,Int.toNat_natCast,tT (by omega),tT (by rw [List.length_set];omega)] at hw;replace hs:Slots a 49 [(0,.slice (some ⟨g,0,none⟩) n cap),(1,.int .i64 0),(2,.int .i64 (n:Int)),(6,.int .i64 (i:Int)),(7,.int .i64 ((j+1:Nat):Int))]:=hs.ot;refine sv hs hw fun a hs=>?_;exact bQ (j,nB S' j) hs hw ⟨by show j≤i;omega,by rw [yQ];exact g2,g3.trans hsk⟩ (by show j<j+1;omega) ⟨rfl,rfl,rfl,rfl,bR ej,trivial⟩
 ·have h6:iQ (n - i) i S=S:=aCS _ (by simp at hc;omega);rw [h6] at h4;rw [h4];refine sc hs ?_
  exact cP hs rfl ⟨rfl,hw⟩⟩
theorem aHg {g cap:Nat} {L:List Res} {ext:List Value} (l:List Int) (hl:l.length≤12):Get Tryz.prog 186 [.slice (some ⟨g,0,none⟩) l.length cap] (aA g (cS l ++ ext) 3::L) (.tuple ⟨[]⟩) (aA g (cS (dV l) ++ ext) 3::L):=⟨fun {w W} hw=>by
 have hp:∀{W:World} {q:Int},Has 0 w W (aA g (cS l ++ ext) 3::L)→Calls Tryz.prog 254 ⟨[.slice (some ⟨g,0,none⟩) l.length cap,.int .i64 0,.int .i64 (l.length:Int),.int .i64 q]⟩ W fun e W'=>e= .returned (.tuple ⟨[]⟩)∧Has 0 w W' (aA g (cS (dV l) ++ ext) 3::L):=by
  intro W q hw;refine enter Tryz.func254 Tryz.ntmps254 rfl rfl fun a hs=>?_;refine sv hs hw fun a hs=>?_;refine bY (σ:=Unit) (fun _=>[(0,.slice (some ⟨g,0,none⟩) l.length cap),(1,.int .i64 0),(2,.int .i64 (l.length:Int))]) (fun _=>aA g (cS l ++ ext) 3::L) (fun _=>True) (fun _=>0) () trivial hs ⟨rfl,rfl,rfl,trivial⟩ hw ?_;clear hs hw;intro _ a W _ hs hw;refine sv hs hw fun a hs=>?_;rw [show decide (IntKind.i64.wrap ((l.length:Int) - 0)≤12)=true from decide_eq_true (by rw [IntWalk.i64_in _ (by omega)];omega)] at hs;refine sv hs hw fun a hs=>?_;refine cl hs ((aHf l rfl hl).ok hw) fun a W hs hw=>?_;refine sc hs ?_
  first
   |exact rt0 hs rfl ⟨rfl,hw⟩
   |exact cP hs rfl ⟨rfl,hw⟩
 refine enter Tryz.func186 Tryz.ntmps186 rfl rfl fun a hs=>?_;refine sv hs hw fun a hs=>?_;refine aG hs (hc:=Tryz.bits_Len (IntKind.u64.wrap (l.length:Int)) W (by rw [IntKind.wrap_u64];omega) (by rw [IntKind.wrap_u64];omega)) (k:=?_);rintro e W' ⟨rfl,rfl⟩;refine ⟨_,rfl,fun a hs=>?_⟩;refine cl hs (hp hw) fun a W hs hw=>?_;refine sc hs ?_
 exact cP hs rfl ⟨rfl,hw⟩⟩
end Go.Proofs.YtgpbngfehfbndaaGreatDoor.Sw
