import Derived.Test.YtgpbngfehfbndaaGreatDoorV10
import Derived.Test.YtgpbngfehfbndaaGreatDoorV15
set_option maxHeartbeats 16000000
set_option linter.all false
set_option maxRecDepth 10000
namespace Go.Proofs.YtgpbngfehfbndaaGreatDoor.Sw
open Go.RowKit Go.Sx
open Go.Proofs.Tryz (prog)
abbrev bR (l:List Int):List Value:=l.map fun x=>Value.int .i64 x
def aM (v:Value) (l:List Int):Res:=Sx.Own 3 1 v l.length (bR l)
def wQ (v:Value) (l:List Int):Res:=Sx.Own 2 1 v l.length (bR l)
def bE (v:Value) (l:List bY):Res:=Sx.Own 137 4 v l.length (l.flatMap bA)
abbrev dM (s:dI):List Value:=[.int .i64 s.ix,.int .i64 s.term,.string s.conf,.string s.data]
def kD (l:LogD):Prop:=0≤l.s.ix∧l.s.ix≤1099511627776∧l.l.length≤200∧l.s.conf.size≤1000000∧∀e∈l.l,e.data.size≤1000000
abbrev eW (p:Nat) (s:dI) (v:Value):Res:=aA p [.int .i64 s.ix,.int .i64 s.term,.string s.conf,.string s.data,v] 203
def aG (p:Nat) (l:LogD):Res:=Ex fun v:Value=>eW p l.s v::bE v l.l::bQ (kD l):: []
abbrev mV (p:Nat) (x y z:Value):Res:=aA p [x,y,z] 295
def gA (p:Nat) (v:VotesD):Res:=Ex fun x:Value×Value×Value=>mV p x.1 x.2.1 x.2.2::aM x.1 v.l::aM x.2.1 v.yes::aM x.2.2 v.no:: []
def gL (p:Nat) (t:TrackD):Res:=Ex fun _:Unit=>aA p (bR t.next ++ bR t.mat) 340::bQ (t.next.length=8∧t.mat.length=8):: []
section
variable {G p:Nat} {w W:World} {R:List Res} {l:LogD} {v:Value} {vt:VotesD} {x y z:Value} {t:TrackD}
theorem iC (h:Has G w W (eW p l.s v::bE v l.l::R)) (hl:kD l):Has G w W (aG p l::R):=Has.shut v ((h.fact hl).pm)
theorem iQ (h:Has G w W (aG p l::R)):kD l∧∃ad cap,Has G w W (eW p l.s (.slice ad l.l.length cap)::bE (.slice ad l.l.length cap) l.l::R):=by
 obtain ⟨v,h⟩:=Has.open h;have h:Has G w W (eW p l.s v::bE v l.l::bQ (kD l)::R):=h;have h2:Has G w W (bE v l.l::eW p l.s v::R):=h.sl;obtain ⟨ad,cap,rfl⟩:=Has.own_slice h2;exact ⟨h.told (In.tl (In.tl In.hd)),ad,cap,h2.swap2⟩
theorem kE (h:Has G w W (mV p x y z::aM x vt.l::aM y vt.yes::aM z vt.no::R)):Has G w W (gA p vt::R):=Has.shut (x,y,z) h
theorem pY (h:Has G w W (gA p vt::R)):∃ad cap ad2 cap2 ad3 cap3,Has G w W (mV p (.slice ad vt.l.length cap) (.slice ad2 vt.yes.length cap2) (.slice ad3 vt.no.length cap3)::aM (.slice ad vt.l.length cap) vt.l::aM (.slice ad2 vt.yes.length cap2) vt.yes::aM (.slice ad3 vt.no.length cap3) vt.no::R):=by
 obtain ⟨⟨x,y,z⟩,h⟩:=Has.open h;have h:Has G w W (mV p x y z::aM x vt.l::aM y vt.yes::aM z vt.no::R):=h;obtain ⟨ad,cap,rfl⟩:=Has.own_slice (h.pm:Has G w W (aM x vt.l::mV p x y z::aM y vt.yes::aM z vt.no::R));obtain ⟨ad2,cap2,rfl⟩:=Has.own_slice (h.pm:Has G w W (aM y vt.yes::mV p (.slice ad vt.l.length cap) y z::aM (.slice ad vt.l.length cap) vt.l::aM z vt.no::R));obtain ⟨ad3,cap3,rfl⟩:=Has.own_slice (h.pm:Has G w W (aM z vt.no::mV p (.slice ad vt.l.length cap) (.slice ad2 vt.yes.length cap2) z::aM (.slice ad vt.l.length cap) vt.l::aM (.slice ad2 vt.yes.length cap2) vt.yes::R));exact ⟨ad,cap,ad2,cap2,ad3,cap3,h⟩
theorem iR (h:Has G w W (aA p (bR t.next ++ bR t.mat) 340::R)) (hl:t.next.length=8∧t.mat.length=8):Has G w W (gL p t::R):=Has.shut () ((h.fact hl).pm)
theorem nX (h:Has G w W (gL p t::R)):(t.next.length=8∧t.mat.length=8)∧Has G w W (aA p (bR t.next ++ bR t.mat) 340::R):=by
 obtain ⟨_,h⟩:=Has.open h;have h:Has G w W (aA p (bR t.next ++ bR t.mat) 340::bQ (t.next.length=8∧t.mat.length=8)::R):=h;exact ⟨h.told (In.tl In.hd),h.sl⟩
end
theorem aGI (l:List Int) (v:Value) (x:Int) (w:World) (r:Rd w 1 v l.length (bR l)):
  Calls prog 263 ⟨[v,.int .i64 x]⟩ w fun e w'=>(∃j:Int,e= .returned (.int .i64 j)∧decide (j≥0)=has l x)∧Below w.heap.size w w':=by
 have hw:=Has.start (G:=0) (w:=w) (Nat.zero_le _);have hlen:=r.len;obtain ⟨ad,cap,rfl⟩:∃ad cap,v= .slice ad l.length cap:=by obtain ⟨_,ad,cap,e,_⟩:=r;exact ⟨ad,cap,e⟩
 refine en Tryz.func263 Tryz.ntmps263 fun a hs=>?_;refine sv hs hw fun a hs=>?_;refine bX (σ:=Nat) (fun i=>[(0,.slice ad l.length cap),(1,.int .i64 x),(7,.int .i64 (l.length:Int)),(8,.int .i64 (i:Int))]) (fun _=>Old w 0:: []) (fun i=>i≤l.length∧has l x=has (l.drop i) x) (fun i=>l.length - i) 0 ⟨Nat.zero_le _,rfl⟩ hs ⟨rfl,rfl,rfl,rfl,trivial⟩ hw ?_;clear hs hw;rintro i a W ⟨hi,hh⟩ hs hw;refine sv hs hw fun a hs=>?_;refine cI hs (kt:=fun hc=>?_) (kf:=fun hc=>?_)
 ·have hi':i<l.length:=by simpa using hc
  obtain ⟨o,ho,hd⟩:=dP hi';refine sv hs hw fun a hs=>?_;refine iI hs (hw.rd inn hw.ext.size r) ho rfl fun a b f hs=>?_;refine sv hs hw fun a hs=>?_;rw [hd] at hh;cases c:(x == o) with
  |true=>
   rw [c] at hs;refine sv hs hw fun a hs=>?_;exact rt1 hs rfl rfl ⟨⟨(i:Int),rfl,by rw [hh];simp at c;simp [has,c]⟩,hw.end inn⟩
  |false=>
   rw [c] at hs;refine sv hs hw fun a hs=>?_;exact bS (i+1) hs hw ⟨hi',by rw [hh];simp at c;simp [has,Ne.symm c]⟩ (by omega) ⟨rfl,rfl,rfl,bU (i1 (by omega)),trivial⟩
 ·have:l.drop i= []:=List.drop_eq_nil_of_le (by simp at hc;omega);refine sv hs hw fun a hs=>?_;exact rt1 hs rfl rfl ⟨⟨-1,rfl,by rw [hh,this];rfl⟩,hw.end inn⟩
theorem aBI (l:List Int) (v:Value) (x:Int) (w:World) (r:Rd w 1 v l.length (bR l)):
  Calls prog 131 ⟨[v,.int .i64 x]⟩ w fun e w'=>e= .returned (.bool (has l x))∧Below w.heap.size w w':=by
 have hw:=Has.start (G:=0) (w:=w) (Nat.zero_le _);refine en Tryz.func131 Tryz.ntmps131 fun a hs=>?_;refine sv hs hw fun a hs=>?_;have hc:Calls prog 207 ⟨[v,.int .i64 x]⟩ w fun e w'=>e= .returned (.bool (has l x))∧Below w.heap.size w w':=by
  clear hs hw;have hw:=Has.start (G:=0) (w:=w) (Nat.zero_le _);refine en Tryz.func207 Tryz.ntmps207 fun a hs=>?_;refine sv hs hw fun a hs=>?_;refine aH hs (hc:=aGI l v x _ (hw.rd inn hw.ext.size r)) (k:=?_);rintro e w' ⟨⟨j,rfl,hj⟩,hb⟩;refine ⟨_,rfl,fun a hs=>?_⟩;have hw:=hw.below hb;refine sv hs hw fun a hs=>?_;exact rt1 hs rfl rfl ⟨by rw [hj],hw.end inn⟩
 refine cb hs hw hc fun a W hs hw=>?_;refine sv hs hw fun a hs=>?_;exact rt1 hs rfl rfl ⟨rfl,hw.end inn⟩
def mY (l:List Int) (i:Nat):Option Int:=match i with|0=>none|j+1=>l[j]?
theorem aBJ (l:List Int) (v:Value) (w:World) (r:Rd w 1 v l.length (bR l)):
  Calls prog 85 ⟨[v]⟩ w fun e w'=>e= .returned (.bool (dB l))∧Below w.heap.size w w':=by
 have hw:=Has.start (G:=0) (w:=w) (Nat.zero_le _);have hlen:=r.len;obtain ⟨ad,cap,rfl⟩:∃ad cap,v= .slice ad l.length cap:=by obtain ⟨_,ad,cap,e,_⟩:=r;exact ⟨ad,cap,e⟩
 refine en Tryz.func85 Tryz.ntmps85 fun a hs=>?_;refine sv hs hw fun a hs=>?_;refine bX (σ:=Nat) (fun i=>[(0,.slice ad l.length cap),(5,.slice ad l.length cap),(6,.int .i64 (l.length:Int)),(7,.int .i64 (i:Int))]) (fun _=>Old w 0:: []) (fun i=>i≤l.length∧gI none l=gI (mY l i) (l.drop i)) (fun i=>l.length - i) 0 ⟨Nat.zero_le _,rfl⟩ hs ⟨rfl,rfl,rfl,rfl,trivial⟩ hw ?_;clear hs hw;rintro i a W ⟨hi,hh⟩ hs hw;refine sv hs hw fun a hs=>?_;refine cI hs (kt:=fun hc=>?_) (kf:=fun hc=>?_)
 ·have hi':i<l.length:=by simpa using hc
  obtain ⟨o,ho,hd⟩:=dP hi';refine sv hs hw fun a hs=>?_;refine iI hs (hw.rd inn hw.ext.size r) ho rfl fun a b f hs=>?_;refine sv hs hw fun a hs=>?_;rw [hd] at hh;have hnext:mY l (i+1)=some o:=ho;cases c1:decide (o<1) with
  |true=>
   rw [c1] at hs;refine sv hs hw fun a hs=>?_;exact rt1 hs rfl rfl ⟨by unfold dB;rw [hh];cases mY l i <;> simp [gI,c1],hw.end inn⟩
  |false=>
  rw [c1] at hs;refine sv hs hw fun a hs=>?_;cases c2:decide (o > 7) with
  |true=>
   rw [c2] at hs;refine sv hs hw fun a hs=>?_;exact rt1 hs rfl rfl ⟨by unfold dB;rw [hh];cases mY l i <;> simp [gI,c2],hw.end inn⟩
  |false=>
  rw [c2] at hs;refine sv hs hw fun a hs=>?_;cases i with
  |zero=>
   refine sv hs hw fun a hs=>?_;exact bS 1 hs hw ⟨hi',by rw [hh,hnext];simp [mY,gI,c1,c2]⟩ (by omega) ⟨rfl,rfl,rfl,bU (i1 (by omega)),trivial⟩
  |succ j=>
   obtain ⟨y,hy,_⟩:=dP (show j<l.length by omega);rw [show mY l (j+1)=some y from hy] at hh;rw [show decide (((j+1:Nat):Int) > 0)=true from decide_eq_true (by omega)] at hs;refine sv hs hw fun a hs=>?_;rw [show IntKind.i64.wrap (((j+1:Nat):Int) - 1)=(j:Int) by rw [IntWalk.i64_in _ (by omega)];omega] at hs;refine gT hs (hw.rd inn hw.ext.size r) II.len (rU l) hy rfl (c:=fun a b f c hc hcl hpc hlt hs=>?_);obtain rfl:c=_:=hc;refine oW hs (c:=?_);refine eQ hs (hc:=hpc 0 _ rfl) (c:=fun a hs=>?_);refine sv hs hw fun a hs=>?_;cases c3:decide (y≥o) with
   |true=>
    rw [c3] at hs;refine sv hs hw fun a hs=>?_;exact rt1 hs rfl rfl ⟨by unfold dB;rw [hh];simp [gI,c3],hw.end inn⟩
   |false=>
    rw [c3] at hs;refine sv hs hw fun a hs=>?_;exact bS (j+2) hs hw ⟨hi',by rw [hh,hnext];simp [gI,c1,c2,c3]⟩ (by omega) ⟨rfl,rfl,rfl,bU (i1 (by omega)),trivial⟩
 ·have:l.drop i= []:=List.drop_eq_nil_of_le (by simp at hc;omega);refine sv hs hw fun a hs=>?_;refine rt1 hs rfl rfl ⟨?_,hw.end inn⟩;unfold dB;rw [hh,this];cases mY l i <;> rfl
abbrev cU (l:List Int):List Value:=l.map fun x=>Value.int .i64 x
theorem xF (S:List Int) (j:Nat):(mP S j).length=S.length:=by simp [mP]
theorem aB2:∀(j:Nat) (S:List Int),(gJ j S).length=S.length
 |0,_=>rfl
 |j+1,S=>by
  unfold gJ;split
  ·rw [aB2 j,xF]
  ·rfl
theorem aB3:∀(f i:Nat) (S:List Int),(iN f i S).length=S.length
 |0,_,_=>rfl
 |f+1,i,S=>by rw [iN,aB3 f,aB2]
theorem aB4 (l:List Int):(dV l).length=l.length:=aB3 _ _ _
theorem sY {S:List Int} {ext:List Value} {k:Nat} {v:Int} (h:k<S.length):ov (cU S ++ ext) (0+k*1) [.int .i64 v]=cU (S.set k v) ++ ext:=by
 have h2:0+k*1+ [Value.int .i64 v].length≤(cU S ++ ext).length:=by simp;omega
 rw [jK _ _ _ h2,show 0+k*1=k by omega];have e:(cU S ++ ext).set k (Value.int .i64 v)=_:=List.set_eq_take_append_cons_drop;rw [if_pos (by simp;omega)] at e;rw [List.append_assoc,List.length_singleton];rw [show [Value.int IntKind.i64 v] ++ List.drop (k+1) (cU S ++ ext)=Value.int IntKind.i64 v::List.drop (k+1) (cU S ++ ext) from rfl,←e,List.set_append_left _ _ (by simp;omega)];simp [List.map_set]
theorem qK {S:List Int} {ext:List Value} {k:Nat} (h:k<S.length):(cU S ++ ext)[0+k*1]? =some (.int .i64 (S.getD k 0)):=by
 rw [show 0+k*1=k by omega,List.getElem?_append_left (by simp;omega),List.getElem?_map,List.getD_eq_getElem?_getD,List.getElem?_eq_getElem h];rfl
theorem aB5 (f:Nat) {i:Nat} {S:List Int} (h:f=0):iN f i S=S:=by subst h;rfl
instance less_int64 {x y:Int} {L:List Res}:Get prog 328 [.int .i64 x,.int .i64 y] L (.bool (decide (x<y))) L:=⟨fun {w W} hw=>by
 have h1:(x !=x)=false:=by simp
 have hn:∀{a:Act} {z:Int},Calls prog 334 ⟨[.int .i64 z]⟩ W fun e W'=>e= .returned (.bool false)∧Has 0 w W' L:=by
  intro _ z;refine en Tryz.func334 Tryz.ntmps334 fun a hs=>?_;refine sv hs hw fun a hs=>?_;rw [show (z !=z)=false by simp] at hs;exact rt1 hs rfl rfl ⟨rfl,hw⟩
 refine en Tryz.func328 Tryz.ntmps328 fun a hs=>?_;refine sv hs hw fun a hs=>?_;refine cl hs (hn (a:=a)) fun a W hs hw=>?_;refine sv hs hw fun a hs=>?_
 exact rt1 hs rfl rfl ⟨rfl,hw⟩⟩
theorem aGn {g cap n:Nat} {L:List Res} {ext:List Value} (l:List Int) (hn:l.length=n) (hl:n≤12):Get prog 322 [.slice (some ⟨g,0,none⟩) n cap,.int .i64 0,.int .i64 (n:Int)] (aA g (cU l ++ ext) 2::L) (.tuple ⟨[]⟩) (aA g (cU (dV l) ++ ext) 2::L):=⟨fun {w W} hw=>by
 refine en Tryz.func322 Tryz.ntmps322 fun a hs=>?_;refine sv hs hw fun a hs=>?_;refine bX (σ:=Nat×List Int) (fun q=>[(0,.slice (some ⟨g,0,none⟩) n cap),(1,.int .i64 0),(2,.int .i64 (n:Int)),(6,.int .i64 (q.1:Int))]) (fun q=>aA g (cU q.2 ++ ext) 2::L) (fun q=>1≤q.1∧q.1≤n+1∧q.2.length=n∧dV l=iN (n - q.1) q.1 q.2) (fun q=>n+1 - q.1) (1,l) ⟨Nat.le_refl _,by omega,hn,by unfold dV;rw [hn]⟩ hs ⟨rfl,rfl,rfl,rfl,trivial⟩ hw ?_;clear hs hw;rintro ⟨i,S⟩ a W ⟨h1,h2,h3,h4⟩ hs hw;simp only at h1 h2 h3 h4 hs hw;refine sv hs hw fun a hs=>?_;refine cI hs (kt:=fun hc=>?_) (kf:=fun hc=>?_)
 ·have hi:i<n:=by simpa using hc
  have h5:dV l=iN (n - (i+1)) (i+1) (gJ i S):=by rw [h4,show n - i=(n - (i+1))+1 by omega];rfl
  refine sv hs hw fun a hs=>?_;refine bX (σ:=Nat×List Int) (fun q=>[(0,.slice (some ⟨g,0,none⟩) n cap),(1,.int .i64 0),(2,.int .i64 (n:Int)),(6,.int .i64 (i:Int)),(7,.int .i64 (q.1:Int))]) (fun q=>aA g (cU q.2 ++ ext) 2::L) (fun q=>q.1≤i∧q.2.length=n∧gJ i S=gJ q.1 q.2) (fun q=>q.1) (i,S) ⟨Nat.le_refl _,h3,rfl⟩ hs ⟨rfl,rfl,rfl,rfl,rfl,trivial⟩ hw ?_;clear hs hw;rintro ⟨j,S'⟩ a W ⟨g1,g2,g3⟩ hs hw;simp only at g1 g2 g3 hs hw;have out:∀{a:Act} {W:World} {T:List (Nat×Value)},gJ i S=S'→Slots a 49 T→lk T 0=some (.slice (some ⟨g,0,none⟩) n cap)→lk T 1=some (.int .i64 0)→lk T 2=some (.int .i64 (n:Int))→lk T 6=some (.int .i64 (IntKind.i64.wrap ((i:Int)+1)))→Has 0 w W (aA g (cU S' ++ ext) 2::L)→∃s':Nat×List Int,(1≤s'.1∧s'.1≤n+1∧s'.2.length=n∧dV l=iN (n - s'.1) s'.1 s'.2)∧n+1 - s'.1<n+1 - i∧Slots a 49 [(0,.slice (some ⟨g,0,none⟩) n cap),(1,.int .i64 0),(2,.int .i64 (n:Int)),(6,.int .i64 (s'.1:Int))]∧Has 0 w W (aA g (cU s'.2 ++ ext) 2::L):=by
   intro a W T e hs k0 k1 k2 k6 hw;exact ⟨(i+1,S'),⟨by show 1≤i+1;omega,by show i+1≤n+1;omega,g2,by rw [h5,e]⟩,by show n+1 - (i+1)<n+1 - i;omega,hs.of ⟨k0,k1,k2,by rw [k6];exact bU (i1 (by omega)),trivial⟩,hw⟩
  cases j with
  |zero=>
   refine zG hs ?_;refine rgp [_,_,_,_,_,_,_,_,_,_,_,_,_,_,_] hs hw fun a W hs hw=>?_;refine sv hs hw fun a hs=>?_;exact out g3 hs rfl rfl rfl rfl hw
  |succ j=>
   have he:decide (((j+1:Nat):Int) > 0)=true:=decide_eq_true (by omega);have ej:IntKind.i64.wrap (((j+1:Nat):Int) - 1)=(j:Int):=by rw [IntWalk.i64_in _ (by omega)];omega
   have hk0:(0:Int)≤((j+1:Nat):Int):=by omega
   have hk1:((j+1:Nat):Int)<(n:Int):=by omega
   have hk2:(0:Int)≤IntKind.i64.wrap (((j+1:Nat):Int) - 1):=by rw [ej];omega
   have hk3:IntKind.i64.wrap (((j+1:Nat):Int) - 1)<(n:Int):=by rw [ej];omega
   have hl1:(cU S' ++ ext)[0+((j+1:Nat):Int).toNat*1]? =some (.int .i64 (S'.getD (j+1) 0)):=qK (by omega);have hl2:(cU S' ++ ext)[0+(IntKind.i64.wrap (((j+1:Nat):Int) - 1)).toNat*1]? =some (.int .i64 (S'.getD j 0)):=by rw [ej];exact qK (by omega)
   have hsk:gJ (j+1) S'=match decide (S'.getD (j+1) 0<S'.getD j 0) with|true=>gJ j (mP S' j)|false=>S':=rfl
   refine zG hs ?_;refine rgq [_,_,_,_,_,_,_,_,_,_,_,_,_,_,_] hs hw fun a W hs hw=>?_;replace hs:Slots a 49 [(30,.bool (decide (S'.getD (j+1) 0<S'.getD j 0))),(0,.slice (some ⟨g,0,none⟩) n cap),(1,.int .i64 0),(2,.int .i64 (n:Int)),(6,.int .i64 (i:Int)),(7,.int .i64 ((j+1:Nat):Int))]:=hs.ot;cases c:decide (S'.getD (j+1) 0<S'.getD j 0) with
   |false=>
    rw [c] at hs hsk;refine sv hs hw fun a hs=>?_;exact out (g3.trans hsk) hs rfl rfl rfl rfl hw
   |true=>
    rw [c] at hs hsk;refine zG hs ?_;have hl3:Nat.ble (0+((j+1:Nat):Int).toNat*1+ [Value.int .i64 (S'.getD j 0)].length) (cU S' ++ ext).length=true:=Nat.ble_eq_true_of_le (by simp;omega);have hl4:Nat.ble (0+(IntKind.i64.wrap (((j+1:Nat):Int) - 1)).toNat*1+ [Value.int .i64 (S'.getD (j+1) 0)].length) (ov (cU S' ++ ext) (0+((j+1:Nat):Int).toNat*1) [.int .i64 (S'.getD j 0)]).length=true:=Nat.ble_eq_true_of_le (by rw [kP,ej];simp;omega);refine bB [15,17] [.f 0 0,.f 0 0,.f 0 1,.f 0 1,.f 0 1,.f 0 0,.f 0 0,.f 0 0,.f 0 0,.f 0 0,.f 0 0,.f 0 0,.f 0 0,.f 0 0,.f 0 0,.m 0,.f 1 1,.m 1] [.c0 _,.c0 _,.c0 _,.c0 _,.c0 _,.c0 _,.c0 _,.c0 _,.c0 _,.c0 _,.c0 _,.c0 _,.c0 _,.c0 _,.c0 _,.c1 (fun x=>undef),.c1 _,.c2 (fun x y=>undef)] (aA g (cU S' ++ ext) 2::L) (fun x=>aA g (ov (cU S' ++ ext) (0+((j+1:Nat):Int).toNat*1) [.int .i64 (S'.getD j 0)]) 2::L) (fun x y=>aA g (ov (ov (cU S' ++ ext) (0+((j+1:Nat):Int).toNat*1) [.int .i64 (S'.getD j 0)]) (0+(IntKind.i64.wrap (((j+1:Nat):Int) - 1)).toNat*1) [.int .i64 (S'.getD (j+1) 0)]) 2::L) (fun x y z=>[]) (fun x y z t=>[]) hs hw ?kk ⟨drs,drs,drs,drs,drs,drs,drs,drs,drs,drs,drs,drs,drs,drs,drs,drm,drs,drm,trivial⟩
    case kk=>
     intro _ _ a W hs hw;rw [ej,Int.toNat_natCast,Int.toNat_natCast,sY (by omega),sY (by rw [List.length_set];omega)] at hw;replace hs:Slots a 49 [(0,.slice (some ⟨g,0,none⟩) n cap),(1,.int .i64 0),(2,.int .i64 (n:Int)),(6,.int .i64 (i:Int)),(7,.int .i64 ((j+1:Nat):Int))]:=hs.ot;refine sv hs hw fun a hs=>?_;exact bS (j,mP S' j) hs hw ⟨by show j≤i;omega,by rw [xF];exact g2,g3.trans hsk⟩ (by show j<j+1;omega) ⟨rfl,rfl,rfl,rfl,bU ej,trivial⟩
 ·have h6:iN (n - i) i S=S:=aB5 _ (by simp at hc;omega);rw [h6] at h4;rw [h4];refine sc hs ?_
  exact cO hs rfl ⟨rfl,hw⟩⟩
theorem aGo {g cap:Nat} {L:List Res} {ext:List Value} (l:List Int) (hl:l.length≤12):Get prog 312 [.slice (some ⟨g,0,none⟩) l.length cap] (aA g (cU l ++ ext) 2::L) (.tuple ⟨[]⟩) (aA g (cU (dV l) ++ ext) 2::L):=⟨fun {w W} hw=>by
 have hp:∀{W:World} {q:Int},Has 0 w W (aA g (cU l ++ ext) 2::L)→Calls prog 319 ⟨[.slice (some ⟨g,0,none⟩) l.length cap,.int .i64 0,.int .i64 (l.length:Int),.int .i64 q]⟩ W fun e W'=>e= .returned (.tuple ⟨[]⟩)∧Has 0 w W' (aA g (cU (dV l) ++ ext) 2::L):=by
  intro W q hw;refine en Tryz.func319 Tryz.ntmps319 fun a hs=>?_;refine sv hs hw fun a hs=>?_;refine bX (σ:=Unit) (fun _=>[(0,.slice (some ⟨g,0,none⟩) l.length cap),(1,.int .i64 0),(2,.int .i64 (l.length:Int))]) (fun _=>aA g (cU l ++ ext) 2::L) (fun _=>True) (fun _=>0) () trivial hs ⟨rfl,rfl,rfl,trivial⟩ hw ?_;clear hs hw;intro _ a W _ hs hw;refine sv hs hw fun a hs=>?_;rw [show decide (IntKind.i64.wrap ((l.length:Int) - 0)≤12)=true from decide_eq_true (by rw [IntWalk.i64_in _ (by omega)];omega)] at hs;refine sv hs hw fun a hs=>?_;refine cl hs ((aGn l rfl hl).ok hw) fun a W hs hw=>?_;refine sc hs ?_
  first
   |exact rt0 hs rfl ⟨rfl,hw⟩
   |exact cO hs rfl ⟨rfl,hw⟩
 refine en Tryz.func312 Tryz.ntmps312 fun a hs=>?_;refine sv hs hw fun a hs=>?_;refine aH hs (hc:=Tryz.bits_Len (IntKind.u64.wrap (l.length:Int)) W (by rw [IntKind.wrap_u64];omega) (by rw [IntKind.wrap_u64];omega)) (k:=?_);rintro e W' ⟨rfl,rfl⟩;refine ⟨_,rfl,fun a hs=>?_⟩;refine cl hs (hp hw) fun a W hs hw=>?_;refine sc hs ?_
 exact cO hs rfl ⟨rfl,hw⟩⟩
instance less_int {x y:Int} {L:List Res}:Get prog 288 [.int .i64 x,.int .i64 y] L (.bool (decide (x<y))) L:=⟨fun {w W} hw=>by
 have h1:(x !=x)=false:=by simp
 have hn:∀{a:Act} {z:Int},Calls prog 311 ⟨[.int .i64 z]⟩ W fun e W'=>e= .returned (.bool false)∧Has 0 w W' L:=by
  intro _ z;refine en Tryz.func311 Tryz.ntmps311 fun a hs=>?_;refine sv hs hw fun a hs=>?_;rw [show (z !=z)=false by simp] at hs;exact rt1 hs rfl rfl ⟨rfl,hw⟩
 refine en Tryz.func288 Tryz.ntmps288 fun a hs=>?_;refine sv hs hw fun a hs=>?_;refine cl hs (hn (a:=a)) fun a W hs hw=>?_;refine sv hs hw fun a hs=>?_
 exact rt1 hs rfl rfl ⟨rfl,hw⟩⟩
theorem aGp {g cap n:Nat} {L:List Res} {ext:List Value} (l:List Int) (hn:l.length=n) (hl:n≤12):Get prog 282 [.slice (some ⟨g,0,none⟩) n cap,.int .i64 0,.int .i64 (n:Int)] (aA g (cU l ++ ext) 3::L) (.tuple ⟨[]⟩) (aA g (cU (dV l) ++ ext) 3::L):=⟨fun {w W} hw=>by
 refine en Tryz.func282 Tryz.ntmps282 fun a hs=>?_;refine sv hs hw fun a hs=>?_;refine bX (σ:=Nat×List Int) (fun q=>[(0,.slice (some ⟨g,0,none⟩) n cap),(1,.int .i64 0),(2,.int .i64 (n:Int)),(6,.int .i64 (q.1:Int))]) (fun q=>aA g (cU q.2 ++ ext) 3::L) (fun q=>1≤q.1∧q.1≤n+1∧q.2.length=n∧dV l=iN (n - q.1) q.1 q.2) (fun q=>n+1 - q.1) (1,l) ⟨Nat.le_refl _,by omega,hn,by unfold dV;rw [hn]⟩ hs ⟨rfl,rfl,rfl,rfl,trivial⟩ hw ?_;clear hs hw;rintro ⟨i,S⟩ a W ⟨h1,h2,h3,h4⟩ hs hw;simp only at h1 h2 h3 h4 hs hw;refine sv hs hw fun a hs=>?_;refine cI hs (kt:=fun hc=>?_) (kf:=fun hc=>?_)
 ·have hi:i<n:=by simpa using hc
  have h5:dV l=iN (n - (i+1)) (i+1) (gJ i S):=by rw [h4,show n - i=(n - (i+1))+1 by omega];rfl
  refine sv hs hw fun a hs=>?_;refine bX (σ:=Nat×List Int) (fun q=>[(0,.slice (some ⟨g,0,none⟩) n cap),(1,.int .i64 0),(2,.int .i64 (n:Int)),(6,.int .i64 (i:Int)),(7,.int .i64 (q.1:Int))]) (fun q=>aA g (cU q.2 ++ ext) 3::L) (fun q=>q.1≤i∧q.2.length=n∧gJ i S=gJ q.1 q.2) (fun q=>q.1) (i,S) ⟨Nat.le_refl _,h3,rfl⟩ hs ⟨rfl,rfl,rfl,rfl,rfl,trivial⟩ hw ?_;clear hs hw;rintro ⟨j,S'⟩ a W ⟨g1,g2,g3⟩ hs hw;simp only at g1 g2 g3 hs hw;have out:∀{a:Act} {W:World} {T:List (Nat×Value)},gJ i S=S'→Slots a 49 T→lk T 0=some (.slice (some ⟨g,0,none⟩) n cap)→lk T 1=some (.int .i64 0)→lk T 2=some (.int .i64 (n:Int))→lk T 6=some (.int .i64 (IntKind.i64.wrap ((i:Int)+1)))→Has 0 w W (aA g (cU S' ++ ext) 3::L)→∃s':Nat×List Int,(1≤s'.1∧s'.1≤n+1∧s'.2.length=n∧dV l=iN (n - s'.1) s'.1 s'.2)∧n+1 - s'.1<n+1 - i∧Slots a 49 [(0,.slice (some ⟨g,0,none⟩) n cap),(1,.int .i64 0),(2,.int .i64 (n:Int)),(6,.int .i64 (s'.1:Int))]∧Has 0 w W (aA g (cU s'.2 ++ ext) 3::L):=by
   intro a W T e hs k0 k1 k2 k6 hw;exact ⟨(i+1,S'),⟨by show 1≤i+1;omega,by show i+1≤n+1;omega,g2,by rw [h5,e]⟩,by show n+1 - (i+1)<n+1 - i;omega,hs.of ⟨k0,k1,k2,by rw [k6];exact bU (i1 (by omega)),trivial⟩,hw⟩
  cases j with
  |zero=>
   refine zG hs ?_;refine rgp [_,_,_,_,_,_,_,_,_,_,_,_,_,_,_] hs hw fun a W hs hw=>?_;refine sv hs hw fun a hs=>?_;exact out g3 hs rfl rfl rfl rfl hw
  |succ j=>
   have he:decide (((j+1:Nat):Int) > 0)=true:=decide_eq_true (by omega);have ej:IntKind.i64.wrap (((j+1:Nat):Int) - 1)=(j:Int):=by rw [IntWalk.i64_in _ (by omega)];omega
   have hk0:(0:Int)≤((j+1:Nat):Int):=by omega
   have hk1:((j+1:Nat):Int)<(n:Int):=by omega
   have hk2:(0:Int)≤IntKind.i64.wrap (((j+1:Nat):Int) - 1):=by rw [ej];omega
   have hk3:IntKind.i64.wrap (((j+1:Nat):Int) - 1)<(n:Int):=by rw [ej];omega
   have hl1:(cU S' ++ ext)[0+((j+1:Nat):Int).toNat*1]? =some (.int .i64 (S'.getD (j+1) 0)):=qK (by omega);have hl2:(cU S' ++ ext)[0+(IntKind.i64.wrap (((j+1:Nat):Int) - 1)).toNat*1]? =some (.int .i64 (S'.getD j 0)):=by rw [ej];exact qK (by omega)
   have hsk:gJ (j+1) S'=match decide (S'.getD (j+1) 0<S'.getD j 0) with|true=>gJ j (mP S' j)|false=>S':=rfl
   refine zG hs ?_;refine rgq [_,_,_,_,_,_,_,_,_,_,_,_,_,_,_] hs hw fun a W hs hw=>?_;replace hs:Slots a 49 [(30,.bool (decide (S'.getD (j+1) 0<S'.getD j 0))),(0,.slice (some ⟨g,0,none⟩) n cap),(1,.int .i64 0),(2,.int .i64 (n:Int)),(6,.int .i64 (i:Int)),(7,.int .i64 ((j+1:Nat):Int))]:=hs.ot;cases c:decide (S'.getD (j+1) 0<S'.getD j 0) with
   |false=>
    rw [c] at hs hsk;refine sv hs hw fun a hs=>?_;exact out (g3.trans hsk) hs rfl rfl rfl rfl hw
   |true=>
    rw [c] at hs hsk;refine zG hs ?_;have hl3:Nat.ble (0+((j+1:Nat):Int).toNat*1+ [Value.int .i64 (S'.getD j 0)].length) (cU S' ++ ext).length=true:=Nat.ble_eq_true_of_le (by simp;omega);have hl4:Nat.ble (0+(IntKind.i64.wrap (((j+1:Nat):Int) - 1)).toNat*1+ [Value.int .i64 (S'.getD (j+1) 0)].length) (ov (cU S' ++ ext) (0+((j+1:Nat):Int).toNat*1) [.int .i64 (S'.getD j 0)]).length=true:=Nat.ble_eq_true_of_le (by rw [kP,ej];simp;omega);refine bB [15,17] [.f 0 0,.f 0 0,.f 0 1,.f 0 1,.f 0 1,.f 0 0,.f 0 0,.f 0 0,.f 0 0,.f 0 0,.f 0 0,.f 0 0,.f 0 0,.f 0 0,.f 0 0,.m 0,.f 1 1,.m 1] [.c0 _,.c0 _,.c0 _,.c0 _,.c0 _,.c0 _,.c0 _,.c0 _,.c0 _,.c0 _,.c0 _,.c0 _,.c0 _,.c0 _,.c0 _,.c1 (fun x=>undef),.c1 _,.c2 (fun x y=>undef)] (aA g (cU S' ++ ext) 3::L) (fun x=>aA g (ov (cU S' ++ ext) (0+((j+1:Nat):Int).toNat*1) [.int .i64 (S'.getD j 0)]) 3::L) (fun x y=>aA g (ov (ov (cU S' ++ ext) (0+((j+1:Nat):Int).toNat*1) [.int .i64 (S'.getD j 0)]) (0+(IntKind.i64.wrap (((j+1:Nat):Int) - 1)).toNat*1) [.int .i64 (S'.getD (j+1) 0)]) 3::L) (fun x y z=>[]) (fun x y z t=>[]) hs hw ?kk ⟨drs,drs,drs,drs,drs,drs,drs,drs,drs,drs,drs,drs,drs,drs,drs,drm,drs,drm,trivial⟩
    case kk=>
     intro _ _ a W hs hw;rw [ej,Int.toNat_natCast,Int.toNat_natCast,sY (by omega),sY (by rw [List.length_set];omega)] at hw;replace hs:Slots a 49 [(0,.slice (some ⟨g,0,none⟩) n cap),(1,.int .i64 0),(2,.int .i64 (n:Int)),(6,.int .i64 (i:Int)),(7,.int .i64 ((j+1:Nat):Int))]:=hs.ot;refine sv hs hw fun a hs=>?_;exact bS (j,mP S' j) hs hw ⟨by show j≤i;omega,by rw [xF];exact g2,g3.trans hsk⟩ (by show j<j+1;omega) ⟨rfl,rfl,rfl,rfl,bU ej,trivial⟩
 ·have h6:iN (n - i) i S=S:=aB5 _ (by simp at hc;omega);rw [h6] at h4;rw [h4];refine sc hs ?_
  exact cO hs rfl ⟨rfl,hw⟩⟩
theorem aGq {g cap:Nat} {L:List Res} {ext:List Value} (l:List Int) (hl:l.length≤12):Get prog 186 [.slice (some ⟨g,0,none⟩) l.length cap] (aA g (cU l ++ ext) 3::L) (.tuple ⟨[]⟩) (aA g (cU (dV l) ++ ext) 3::L):=⟨fun {w W} hw=>by
 have hp:∀{W:World} {q:Int},Has 0 w W (aA g (cU l ++ ext) 3::L)→Calls prog 254 ⟨[.slice (some ⟨g,0,none⟩) l.length cap,.int .i64 0,.int .i64 (l.length:Int),.int .i64 q]⟩ W fun e W'=>e= .returned (.tuple ⟨[]⟩)∧Has 0 w W' (aA g (cU (dV l) ++ ext) 3::L):=by
  intro W q hw;refine en Tryz.func254 Tryz.ntmps254 fun a hs=>?_;refine sv hs hw fun a hs=>?_;refine bX (σ:=Unit) (fun _=>[(0,.slice (some ⟨g,0,none⟩) l.length cap),(1,.int .i64 0),(2,.int .i64 (l.length:Int))]) (fun _=>aA g (cU l ++ ext) 3::L) (fun _=>True) (fun _=>0) () trivial hs ⟨rfl,rfl,rfl,trivial⟩ hw ?_;clear hs hw;intro _ a W _ hs hw;refine sv hs hw fun a hs=>?_;rw [show decide (IntKind.i64.wrap ((l.length:Int) - 0)≤12)=true from decide_eq_true (by rw [IntWalk.i64_in _ (by omega)];omega)] at hs;refine sv hs hw fun a hs=>?_;refine cl hs ((aGp l rfl hl).ok hw) fun a W hs hw=>?_;refine sc hs ?_
  first
   |exact rt0 hs rfl ⟨rfl,hw⟩
   |exact cO hs rfl ⟨rfl,hw⟩
 refine en Tryz.func186 Tryz.ntmps186 fun a hs=>?_;refine sv hs hw fun a hs=>?_;refine aH hs (hc:=Tryz.bits_Len (IntKind.u64.wrap (l.length:Int)) W (by rw [IntKind.wrap_u64];omega) (by rw [IntKind.wrap_u64];omega)) (k:=?_);rintro e W' ⟨rfl,rfl⟩;refine ⟨_,rfl,fun a hs=>?_⟩;refine cl hs (hp hw) fun a W hs hw=>?_;refine sc hs ?_
 exact cO hs rfl ⟨rfl,hw⟩⟩
end Go.Proofs.YtgpbngfehfbndaaGreatDoor.Sw
