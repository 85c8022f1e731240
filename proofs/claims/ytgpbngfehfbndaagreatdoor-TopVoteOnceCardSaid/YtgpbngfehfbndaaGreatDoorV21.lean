import Derived.Test.YtgpbngfehfbndaaGreatDoorV18
set_option maxHeartbeats 16000000
set_option linter.all false
set_option maxRecDepth 10000
namespace Go.Proofs.YtgpbngfehfbndaaGreatDoor.Sw
open Go.RowKit Go.Sx Go.Sort Go.Proofs Go.Maps
open Go.Proofs.Tryz (prog)
theorem aGa (w0 W:World) (m:Nat) (R:List Res) (hw:Has 0 w0 W R):
  Calls prog 147 ⟨[.map (some m)]⟩ W fun e W'=>∃q,e= .returned (.func (.func 223) #[] #[.pointer (some ⟨q,0,none⟩)])∧True∧Has 0 w0 W' (aA q [.map (some m)] (Tryz.keysD_ren.t 23)::R):=
 (callsIn_wide.1 (AnyZ.keys_in Tryz.keysD Fence.wide 5 trivial rfl (some m) W)).mono (by
  rintro e W' ⟨rfl,rfl⟩
  exact ⟨_,rfl,trivial,hw.new [.map (some m)] _⟩)
theorem aGb (w0 W:World) (q m:Nat) (d:KV) (R:List Res) (hl:d.length≤1) (hd:∀p∈d,p.1.size≤1000) (hw:Has 0 w0 W (aA q [.map (some m)] (Tryz.keysD_ren.t 23)::bN m d::R)):
  Calls prog 221 ⟨[.func (.func 223) #[] #[.pointer (some ⟨q,0,none⟩)]]⟩ W fun e W'=>∃(sv:Value),e= .returned sv∧True∧
   Has 0 w0 W' (Sx.Own 9 1 sv d.length ((d.map (·.1)).map Value.string)::aA q [.map (some m)] (Tryz.keysD_ren.t 23)::bN m d::R):=by
 obtain ⟨es,c,hm,he⟩:=hw.map_at (In.tl In.hd);have hk:es.map (·.k)=d.map (·.1):=by
  rw [←he,List.map_map];rfl
 have hlen:es.length=d.length:=by simpa using congrArg List.length hk
 have hsz:∀e∈es,e.k.size≤maxLen:=by
  intro e he';have h1:e.k∈d.map (·.1):=hk▸List.mem_map_of_mem he';obtain ⟨p,hp,hpe⟩:=List.mem_map.1 h1;have h2:=hd p hp;rw [hpe] at h2;exact Nat.le_trans h2 (by decide)
 have hnd:(es.map (·.k)).Nodup:=by
  rw [hk]
  match d,hl with
  | [],_=>simp
  | [p],_=>simp
 obtain ⟨D0,ho,hp,hs⟩:=aG9 (P:=prog) (K:=Tryz.keysD_ren.t 26) (by kernel_rfl) hm hnd hsz (Nat.le_trans (by omega:es.length≤50) (by decide));have hq:=hw.block In.hd;have hseq:SeqGives Fence.wide 3 prog (Tryz.keysD_ren.f 10) #[.pointer (some ⟨q,0,none⟩)] encStr (fun ss=>ss.Perm (strKeys D0)) (Maps.size D0) W:=
  AnyZ.keys_gives (ρ:=Tryz.keysD_ren) {Tryz.keysD with} Fence.wide _ trivial rfl (by omega) q m es.length D0 W hq.2.2 (by rw [hC hq.1];rfl) ho
 refine (callsIn_wide.1 (AnyZ.collect_in Tryz.collD Fence.wide 5 trivial trivial rfl (by omega) (Tryz.keysD_ren.f 10) #[.pointer (some ⟨q,0,none⟩)] trivial (enters_of Tryz.func223 (by kernel_rfl) rfl) _ _ (by rw [hs];exact Nat.le_trans (by omega:es.length≤50) (by decide)) (by rw [hs];omega) W hseq)).mono ?_;rintro e W' ⟨v,ss,rfl,hS,hrow,hnil,hb⟩;have hks:(ss.map fun s=>(⟨s.toArray⟩:ByteArray)).map Value.string=ss.map encStr:=by rw [List.map_map];rfl
 have hpm:(ss.map fun s=>(⟨s.toArray⟩:ByteArray)).Perm (d.map (·.1)):=by
  refine ((hS.trans hp).map _).trans (List.Perm.of_eq ?_);rw [List.map_map,←hk];refine List.map_congr_left fun e _=>?_;show (⟨e.k.data.toList.toArray⟩:ByteArray)=e.k;simp
 have heq:(ss.map fun s=>(⟨s.toArray⟩:ByteArray))=d.map (·.1):=by
  match d,hl,hpm with
  | [],_,hpm=>exact List.Perm.eq_nil hpm
  | [p],_,hpm=>exact List.perm_singleton.1 hpm
 have hsl:ss.length=d.length:=by simpa using congrArg List.length heq
 refine ⟨v,rfl,trivial,?_⟩;rw [←heq,hks,←hsl];refine hw.newOwn hb ?_;obtain ⟨h1,h2⟩:=hrow;refine ⟨h1,h2.imp id ?_⟩;rintro ⟨g,cap,cur,h3,h4,h5,h6,h7,h8,h9⟩;exact ⟨g,cap,cur.toList,h3,⟨h4,(Array.getElem?_eq_some_iff.1 h5).1⟩,h5,h6,h7,by simpa using h8,h9⟩
section
variable {nm:ByteArray} {p m f:Nat} {w0 W:World} {R L:List Res} {d:bM}
theorem aGc {ad:Option Addr} {k cap:Nat} (hk:k≤1):Get prog 222 [.slice ad k cap] L (.tuple ⟨[]⟩) L:=⟨fun {w W} hw=>by
 have hi:∀{W:World},Has 0 w W L→Calls prog 294 ⟨[.slice ad k cap,.int .i64 0,.int .i64 (k:Int)]⟩ W fun e W'=>e= .returned (.tuple ⟨[]⟩)∧Has 0 w W' L:=by
  intro W hw;refine en Tryz.func294 Tryz.ntmps294 fun a hs=>?_;refine sv hs hw fun a hs=>?_;refine bX (σ:=Unit) (fun _=>[(2,.int .i64 (k:Int)),(6,.int .i64 1)]) (fun _=>L) (fun _=>True) (fun _=>0) () trivial hs ⟨rfl,rfl,trivial⟩ hw ?_;clear hs hw;intro _ a W _ hs hw;refine sv hs hw fun a hs=>?_;rw [show decide ((1:Int)<(k:Int))=false from decide_eq_false (by omega)] at hs;refine sc hs ?_
  first
   |exact rt0 hs rfl ⟨rfl,hw⟩
   |exact cO hs rfl ⟨rfl,hw⟩
 have hp:∀{W:World} {q:Int},Has 0 w W L→Calls prog 267 ⟨[.slice ad k cap,.int .i64 0,.int .i64 (k:Int),.int .i64 q]⟩ W fun e W'=>e= .returned (.tuple ⟨[]⟩)∧Has 0 w W' L:=by
  intro W q hw;refine en Tryz.func267 Tryz.ntmps267 fun a hs=>?_;refine sv hs hw fun a hs=>?_;refine bX (σ:=Unit) (fun _=>[(0,.slice ad k cap),(1,.int .i64 0),(2,.int .i64 (k:Int))]) (fun _=>L) (fun _=>True) (fun _=>0) () trivial hs ⟨rfl,rfl,rfl,trivial⟩ hw ?_;clear hs hw;intro _ a W _ hs hw;refine sv hs hw fun a hs=>?_;rw [show decide (IntKind.i64.wrap ((k:Int) - 0)≤12)=true from decide_eq_true (by rw [IntWalk.i64_in _ (by omega)];omega)] at hs;refine sv hs hw fun a hs=>?_;refine cl hs (hi hw) fun a W hs hw=>?_;refine sc hs ?_
  first
   |exact rt0 hs rfl ⟨rfl,hw⟩
   |exact cO hs rfl ⟨rfl,hw⟩
 refine en Tryz.func222 Tryz.ntmps222 fun a hs=>?_;refine sv hs hw fun a hs=>?_;refine aH hs (hc:=Tryz.bits_Len (IntKind.u64.wrap (k:Int)) W (by rw [IntKind.wrap_u64];omega) (by rw [IntKind.wrap_u64];omega)) (k:=?_);rintro e W' ⟨rfl,rfl⟩;refine ⟨_,rfl,fun a hs=>?_⟩;refine cl hs (hp hw) fun a W hs hw=>?_;refine sc hs ?_
 exact cO hs rfl ⟨rfl,hw⟩⟩
theorem aGd (q m:Nat) (d:KV) (hl:d.length≤1) (hd:∀p∈d,p.1.size≤1000) (hw:Has 0 w0 W (aA q [.map (some m)] (Tryz.keysD_ren.t 23)::bN m d::R)):
  Calls prog 146 ⟨[.func (.func 223) #[] #[.pointer (some ⟨q,0,none⟩)]]⟩ W fun e W'=>∃(sv:Value),e= .returned sv∧True∧
   Has 0 w0 W' (Sx.Own 9 1 sv d.length ((d.map (·.1)).map Value.string)::aA q [.map (some m)] (Tryz.keysD_ren.t 23)::bN m d::R):=by
 refine en Tryz.func146 Tryz.ntmps146 fun a hs=>?_;refine sv hs hw fun a hs=>?_;refine cle hs (aGb w0 W q m d R hl hd hw) fun s a W _ hs hw=>?_;obtain ⟨ad,cap,rfl⟩:=hw.own_slice;refine sv hs hw fun a hs=>?_;refine cl hs ((aGc (ad:=ad) (cap:=cap) hl).ok hw) fun a W hs hw=>?_;refine sv hs hw fun a hs=>?_;exact rt1 hs rfl rfl ⟨_,rfl,trivial,hw⟩
def eY (nm:ByteArray):bM→List ByteArray
 |none=>[]
 |some _=>[nm]
theorem xA (hn:nm.size≤1000) (hw:Has 0 w0 W (aB nm p d::R)):
  Calls prog 82 ⟨[ptr p]⟩ W fun e W'=>∃x:Option Addr×Nat,e= .returned (.slice x.1 (eY nm d).length x.2)∧True∧Has 0 w0 W' (Sx.Own 9 1 (.slice x.1 (eY nm d).length x.2) (eY nm d).length ((eY nm d).map Value.string)::aB nm p d::R):=by
 obtain ⟨m,c,kv,hkl,hkn,R',hw,hback⟩:∃(m:Nat) (c:Int) (kv:KV),kv.length≤1∧kv.map (·.1)=eY nm d∧∃R',Has 0 w0 W (dJ p m c::bN m kv::R')∧∀{W L},Has 0 w0 W (L::dJ p m c::bN m kv::R')→Has 0 w0 W (L::aB nm p d::R):=by
  cases d with
  |none=>
   obtain ⟨m,c,hw⟩:=p0 hw;exact ⟨m,c,[],by simp,rfl,R,hw,fun h=>(wU (h.pm:Has 0 w0 _ (dJ p m c::bN m []::_::R))).swap2⟩
  |some fd=>
   obtain ⟨m,c,f,ad,cap,hw⟩:=nY hw;exact ⟨m,c,_,by simp,rfl,_,hw,fun {W L} h=>(lZ (f:=f) (h.pm:Has 0 w0 W (dJ p m c::bN m [(nm,ptr f)]::eX f (.slice ad fd.b.length cap) fd.lasts fd.there::bG (.slice ad fd.b.length cap) fd.b::L::R))).swap2⟩
 have hd1:∀p∈kv,p.1.size≤1000:=by
  intro p hp;have h1:p.1∈eY nm d:=hkn▸List.mem_map_of_mem hp;cases d with
  |none=>cases h1
  |some fd=>
   have h1:p.1∈[nm]:=h1;rw [List.mem_singleton] at h1;rw [h1];exact hn
 have hlen:kv.length=(eY nm d).length:=by rw [←hkn,List.length_map]
 refine en Tryz.func82 Tryz.ntmps82 fun a hs=>?_;refine sv hs hw fun a hs=>?_;refine cle hs (aGa w0 W m _ hw) fun q a W _ hs hw=>?_;have hw:Has 0 w0 W (aA q [.map (some m)] (Tryz.keysD_ren.t 23)::bN m kv::dJ p m c::R'):=hw.pm;refine cle hs (aGd q m kv hkl hd1 hw) fun s a W _ hs hw=>?_;rw [hkn,hlen] at hw;obtain ⟨ad,cap,rfl⟩:=hw.own_slice;refine sv hs hw fun a hs=>?_;refine rt1 hs rfl rfl ⟨(ad,cap),rfl,trivial,?_⟩;exact hback (hw.sl)
end
end Go.Proofs.YtgpbngfehfbndaaGreatDoor.Sw
namespace Go.Proofs.YtgpbngfehfbndaaGreatDoor.Sw
open Go.RowKit Go.Sx
open Go.Proofs.Tryz (prog)
theorem xG:∀{q:Option Int} {l:List Int},gI q l=true→∀x∈l,1≤x∧x≤7
 |_,[],_,x,h=>by cases h
 |none,y::r,h,x,hx=>by
  simp [gI] at h;rcases List.mem_cons.1 hx with rfl|hx
  ·omega
  ·exact xG h.2 x hx
 |some q,y::r,h,x,hx=>by
  simp [gI] at h;rcases List.mem_cons.1 hx with rfl|hx
  ·omega
  ·exact xG h.2 x hx
theorem aB6 {l:List Int} (h:dB l=true):∀x∈l,1≤x∧x≤7:=by
 unfold dB at h;rw [Bool.and_eq_true] at h;exact xG h.1
def lC (l:List Int):List UInt8:=l.map fun x=>UInt8.ofNat (48+x).toNat
section
variable {l:List Int} {sl:Value} {L L1:List Res}
theorem aGr [c:dH (fun l=>aM sl l) L l L1]:Get prog 88 [sl] L (.string ⟨(iM l).toArray⟩) L:=⟨fun {w W} hw=>by
 have hr:∀{W},Has 0 w W L→Rd W 1 sl l.length (bR l):=fun h=>(h.pick c.p).rd_own In.hd;obtain ⟨ad,cap,rfl⟩:=Has.own_slice (hw.pick c.p);refine en Tryz.func88 Tryz.ntmps88 fun a hs=>?_;refine sx hs hw fun a W hs hw=>?_;unfold iM;cases h:dB l with
 |false=>
  rw [h] at hs;refine sv hs hw fun a hs=>?_;exact rt1 hs rfl rfl ⟨rfl,hw⟩
 |true=>
 rw [h] at hs;have hmem:=aB6 h;have h7:=pZ h;refine sv hs hw fun a hs=>?_;have hw:Has 0 w W (bG (.slice none 0 0) []::L):=hw.nilB 5;refine bX (σ:=Nat×Option Addr×Nat) (fun u=>[(3,.slice u.2.1 (lC (l.take u.1)).length u.2.2),(9,.slice ad l.length cap),(10,.int .i64 (l.length:Int)),(11,.int .i64 (u.1:Int))]) (fun u=>bG (.slice u.2.1 (lC (l.take u.1)).length u.2.2) (lC (l.take u.1))::L) (fun u=>u.1≤l.length) (fun u=>l.length - u.1) (0,none,0) (Nat.zero_le _) hs ⟨rfl,rfl,rfl,rfl,trivial⟩ hw ?_;clear hs hw;rintro ⟨i,ad2,cap2⟩ a W hi hs hw;have hi:i≤l.length:=hi;simp only at hs hw;refine sv hs hw fun a hs=>?_;refine cI hs (kt:=fun hc=>?_) (kf:=fun hc=>?_)
 ·have hi':i<l.length:=by simpa using hc
  obtain ⟨o,ho,hd⟩:=dP hi';have hm:=hmem o (List.mem_of_getElem? ho);have hn:lC (l.take (i+1))=lC (l.take i) ++ [UInt8.ofNat (48+o).toNat]:=by unfold lC;rw [fQ ho,List.map_append];rfl
  have hk:(lC (l.take i)).length≤7:=by unfold lC;rw [List.length_map,List.length_take];omega
  refine sc hs ?_;refine iI hs (hr (hw.d1)) ho rfl fun a b f hs=>?_;refine sv hs hw fun a hs=>?_
  rw [show IntKind.u8.wrap (IntKind.i64.wrap (48+o))=((UInt8.ofNat (48+o).toNat).toNat:Int) by
   rw [IntWalk.i64_in _ (by omega)];have:(48+o)=(((48+o).toNat:Nat):Int):=by omega
   rw [this]
   simp [IntKind.wrap,IntKind.bits,IntKind.signed]] at hs
  refine sn hs hw fun b a W hs hw=>?_;refine gQ hs (hw.pick (Pick.tl Pick.hd)) (l:=lC (l.take i)) (m:=[UInt8.ofNat (48+o).toNat]) (hr:=uW (m:=1) (size:=1) (hw.pick (Pick.tl Pick.hd)) (In.tl In.hd) rfl rfl 1) (hb:=by simp;omega) (c:=fun a ad cap W hs hw=>?_);rw [←hn] at hs hw;refine sv hs hw fun a hs=>?_;exact bS (i+1,ad,cap) hs (hw.sl) hi' (by show l.length - (i+1)<l.length - i;omega) ⟨rfl,rfl,rfl,bU (i1 (by omega)),trivial⟩
 ·have:l.take i=l:=List.take_of_length_le (by simp at hc;omega);rw [this] at hs hw;refine sv hs hw fun a hs=>?_;refine iF hs (r:=hw.rd_own In.hd) (k:=fun a hs=>?_);refine sv hs hw fun a hs=>?_
  exact rt1 hs rfl rfl ⟨rfl,hw.d1⟩⟩
theorem aGs {l2:List Int} {s2:Value} {L2:List Res} [c:dH (fun l=>aM sl l) L l L1] [c2:dH (fun l=>aM s2 l) L l2 L2]:Get prog 190 [sl,s2] L (.bool (nT l l2)) L:=⟨fun {w W} hw=>by
 refine en Tryz.func190 Tryz.ntmps190 fun a hs=>?_;refine sv hs hw fun a hs=>?_
 let f:Nat→Bool:=fun (k:Nat)=>has l ((k:Int)+1) !=has l2 ((k:Int)+1)
 have hle:∀k,((List.range k).filter f).length≤k:=fun k=>Nat.le_trans (List.length_filter_le _ _) (by simp);refine bX (σ:=Nat) (fun k=>[(0,sl),(1,s2),(5,.int .i64 (((List.range k).filter f).length:Int)),(6,.int .i64 ((k:Int)+1))]) (fun _=>L) (fun k=>k≤7) (fun k=>7 - k) 0 (by decide) hs ⟨rfl,rfl,rfl,rfl,trivial⟩ hw ?_;clear hs hw;intro k a W hk hs hw;have hk:k≤7:=hk;refine sv hs hw fun a hs=>?_;refine cI hs (kt:=fun hc=>?_) (kf:=fun hc=>?_)
 ·have hk':k<7:=by simp at hc;omega
  have hs1:((List.range (k+1)).filter f).length=((List.range k).filter f).length+(match f k with|true=>1|false=>0):=by
   rw [List.range_succ,List.filter_append,List.length_append];cases hf:f k <;> simp [hf]
  have hlk:=hle k;refine sx hs hw fun a W hs hw=>?_;rw [show (!(has l ((k:Int)+1) == has l2 ((k:Int)+1)))=f k from rfl] at hs;cases c:f k with
  |true=>
   rw [c] at hs hs1;replace hs1:((List.range (k+1)).filter f).length=((List.range k).filter f).length+1:=hs1;refine sv hs hw fun a hs=>?_;exact bS (k+1) hs hw hk' (by omega) ⟨rfl,rfl,bU (by rw [hs1,IntWalk.i64_in _ (by omega)];omega),bU (by rw [IntWalk.i64_in _ (by omega)];omega),trivial⟩
  |false=>
   rw [c] at hs hs1;refine sv hs hw fun a hs=>?_;exact bS (k+1) hs hw hk' (by omega) ⟨rfl,rfl,bU (by rw [hs1];rfl),bU (by rw [IntWalk.i64_in _ (by omega)];omega),trivial⟩
 ·have h7:k=7:=by simp at hc;omega
  subst h7;have e:nT l l2=(dB l && dB l2 && decide (((List.range 7).filter f).length≤1)):=rfl;rw [e];refine sx hs hw fun a W hs hw=>?_;cases c1:dB l with
  |false=>
   rw [c1] at hs;refine sv hs hw fun a hs=>?_;exact rt1 hs rfl rfl ⟨rfl,hw⟩
  |true=>
  rw [c1] at hs;refine sx hs hw fun a W hs hw=>?_;cases c2:dB l2 with
  |false=>
   rw [c2] at hs;refine sv hs hw fun a hs=>?_;exact rt1 hs rfl rfl ⟨rfl,hw⟩
  |true=>
   rw [c2] at hs;refine sv hs hw fun a hs=>?_;have e3:decide ((((List.range 7).filter f).length:Int)≤1)=decide (((List.range 7).filter f).length≤1):=by by_cases h:((List.range 7).filter f).length≤1 <;> simp [h] <;> omega
   rw [e3] at hs
   exact rt1 hs rfl rfl ⟨rfl,hw⟩⟩
end
theorem sZ {l:List Int} {x v:Int} (h:l.length=8):(eG l x v).length=8:=by simp [eG,h]
theorem aB7 {l:List Int} {x v:Int} (h:l.length=8) (hx:0≤x∧x<8):nth (eG l x v) x=v:=by
 unfold nth eG;rw [List.getD_eq_getElem?_getD,List.getElem?_set,if_pos rfl,if_pos (by omega)];rfl
section
variable {p:Nat} {t:TrackD} {L L1:List Res} {X i:Int}
theorem track_Yes [c:dH (fun t=>gL p t) L t L1]:Get prog 218 [ptr p,.int .i64 X,.int .i64 i] L (.bool (t.yesD X i).2) (gL p (t.yesD X i).1::L1):=⟨fun {w W} hw=>by
 obtain ⟨hl,hw⟩:=nX (hw.pick c.p);have e:t.yesD X i=match srv X && cV i with|false=>(t,false)|true=>(⟨eG t.next X (max (nth t.next X) (w64 (max (nth t.mat X) i+1))),eG t.mat X (max (nth t.mat X) i)⟩,decide (i > nth t.mat X)):=rfl
 rw [e];refine en Tryz.func218 Tryz.ntmps218 fun a hs=>?_;refine sx hs hw fun a W hs hw=>?_;cases c1:srv X with
 |false=>
  rw [c1] at hs;refine sv hs hw fun a hs=>?_;exact rt1 hs rfl rfl ⟨rfl,iR hw hl⟩
 |true=>
  rw [c1] at hs;refine sx hs hw fun a W hs hw=>?_;cases c2:cV i with
  |false=>
   rw [c2] at hs;refine sv hs hw fun a hs=>?_;exact rt1 hs rfl rfl ⟨rfl,iR hw hl⟩
  |true=>
   rw [c2] at hs;have hx:=qF c1;have hj0:=hx.1;have hj1:X<((8:Nat):Int):=hx.2;have hl2:=xC hl.1 hl.2 hx;have hl3:=aGh hl.1 hl.2 hx (.int .i64 (max (nth t.mat X) i));refine sw (P:=prog) hs hw fun a W hs hw=>?_;refine bB [13] [.f 0 0,.f 0 0,.f 0 0,.f 0 0,.f 0 0,.f 0 0,.f 0 0,.f 0 0,.f 0 0,.f 0 0,.f 0 0,.f 0 0,.f 0 0,.m 0] [.c0 _,.c0 _,.c0 _,.c0 _,.c0 _,.c0 _,.c0 _,.c0 _,.c0 _,.c0 _,.c0 _,.c0 _,.c0 _,.c1 (fun x=>undef)] (aA p (bR t.next ++ bR t.mat) 340::L1) (fun x=>aA p (ov (bR t.next ++ bR t.mat) (0+8+X.toNat*1) [.int .i64 (max (nth t.mat X) i)]) 340::L1) (fun x y=>[]) (fun x y z=>[]) (fun x y z t=>[]) hs hw ?kk ⟨drs,drs,drs,drs,drs,drs,drs,drs,drs,drs,drs,drs,drs,drm,trivial⟩
   case kk=>
    intro _ a W hs hw;rw [aGg hl.1 hl.2 hx] at hw;replace hs:Slots a 58 [(0,ptr p),(1,.int .i64 X),(2,.int .i64 i),(7,.bool (decide (i > nth t.mat X)))]:=hs.ot;have hm:=aB7 (v:=max (nth t.mat X) i) hl.2 hx;have hml:=sZ (x:=X) (v:=max (nth t.mat X) i) hl.2;clear hl2 hl3;generalize eG t.mat X (max (nth t.mat X) i)=mt at *;have hl1:=qG (mt:=mt) hl.1 hx;have hl2:=xC hl.1 hml hx;have hl3:=qI hl.1 hml hx (.int .i64 (max (nth t.next X) (IntKind.i64.wrap (nth mt X+1))));refine sc hs ?_;refine bB [19] [.f 0 0,.f 0 0,.f 0 0,.f 0 0,.f 0 0,.f 0 0,.f 0 0,.f 0 0,.f 0 0,.f 0 0,.f 0 0,.f 0 0,.f 0 0,.f 0 0,.f 0 0,.f 0 0,.f 0 0,.f 0 0,.f 0 0,.m 0] [.c0 _,.c0 _,.c0 _,.c0 _,.c0 _,.c0 _,.c0 _,.c0 _,.c0 _,.c0 _,.c0 _,.c0 _,.c0 _,.c0 _,.c0 _,.c0 _,.c0 _,.c0 _,.c0 _,.c1 (fun x=>undef)] (aA p (bR t.next ++ bR mt) 340::L1) (fun x=>aA p (ov (bR t.next ++ bR mt) (0+0+X.toNat*1) [.int .i64 (max (nth t.next X) (IntKind.i64.wrap (nth mt X+1)))]) 340::L1) (fun x y=>[]) (fun x y z=>[]) (fun x y z t=>[]) hs hw ?kk ⟨drs,drs,drs,drs,drs,drs,drs,drs,drs,drs,drs,drs,drs,drs,drs,drs,drs,drs,drs,drm,trivial⟩
    case kk=>
     intro _ a W hs hw;rw [qH hl.1 hx,hm] at hw;refine sv hs hw fun a hs=>?_
     exact rt1 hs rfl rfl ⟨rfl,iR (t:=⟨_,_⟩) hw ⟨sZ hl.1,hml⟩⟩⟩
theorem track_No [c:dH (fun t=>gL p t) L t L1]:Get prog 217 [ptr p,.int .i64 X,.int .i64 i] L (.bool (t.noD X i).2) (gL p (t.noD X i).1::L1):=⟨fun {w W} hw=>by
 obtain ⟨hl,hw⟩:=nX (hw.pick c.p);have e:t.noD X i=match srv X && cV i with|false=>(t,false)|true=>(⟨eG t.next X (max (min (w64 (nth t.next X - 1)) (w64 (i+1))) (w64 (nth t.mat X+1))),t.mat⟩,max (min (w64 (nth t.next X - 1)) (w64 (i+1))) (w64 (nth t.mat X+1)) !=nth t.next X):=rfl
 rw [e];refine en Tryz.func217 Tryz.ntmps217 fun a hs=>?_;refine sx hs hw fun a W hs hw=>?_;cases c1:srv X with
 |false=>
  rw [c1] at hs;refine sv hs hw fun a hs=>?_;exact rt1 hs rfl rfl ⟨rfl,iR hw hl⟩
 |true=>
  rw [c1] at hs;refine sx hs hw fun a W hs hw=>?_;cases c2:cV i with
  |false=>
   rw [c2] at hs;refine sv hs hw fun a hs=>?_;exact rt1 hs rfl rfl ⟨rfl,iR hw hl⟩
  |true=>
   rw [c2] at hs;have hx:=qF c1;have hj0:=hx.1;have hj1:X<((8:Nat):Int):=hx.2;have hl1:=qG (mt:=t.mat) hl.1 hx;have hl2:=xC hl.1 hl.2 hx;have hl3:=qI hl.1 hl.2 hx (.int .i64 (max (min (w64 (nth t.next X - 1)) (w64 (i+1))) (w64 (nth t.mat X+1))));refine sw (P:=prog) hs hw fun a W hs hw=>?_;refine bB [18] [.f 0 0,.f 0 0,.f 0 0,.f 0 0,.f 0 0,.f 0 0,.f 0 0,.f 0 0,.f 0 0,.f 0 0,.f 0 0,.f 0 0,.f 0 0,.f 0 0,.f 0 0,.f 0 0,.f 0 0,.f 0 0,.m 0] [.c0 _,.c0 _,.c0 _,.c0 _,.c0 _,.c0 _,.c0 _,.c0 _,.c0 _,.c0 _,.c0 _,.c0 _,.c0 _,.c0 _,.c0 _,.c0 _,.c0 _,.c0 _,.c1 (fun x=>undef)] (aA p (bR t.next ++ bR t.mat) 340::L1) (fun x=>aA p (ov (bR t.next ++ bR t.mat) (0+0+X.toNat*1) [.int .i64 (max (min (w64 (nth t.next X - 1)) (w64 (i+1))) (w64 (nth t.mat X+1)))]) 340::L1) (fun x y=>[]) (fun x y z=>[]) (fun x y z t=>[]) hs hw ?kk ⟨drs,drs,drs,drs,drs,drs,drs,drs,drs,drs,drs,drs,drs,drs,drs,drs,drs,drs,drm,trivial⟩
   case kk=>
    intro _ a W hs hw;rw [qH hl.1 hx] at hw;replace hs:Slots a 49 [(0,ptr p),(1,.int .i64 X),(7,.int .i64 (nth t.next X))]:=hs.ot;have hm:=aB7 (v:=max (min (w64 (nth t.next X - 1)) (w64 (i+1))) (w64 (nth t.mat X+1))) hl.1 hx;have hml:=sZ (x:=X) (v:=max (min (w64 (nth t.next X - 1)) (w64 (i+1))) (w64 (nth t.mat X+1))) hl.1;clear hl1 hl2 hl3;have hl1:=qG (mt:=t.mat) hml hx;rw [hm] at hl1;refine sw (P:=prog) hs hw fun a W hs hw=>?_
    exact rt1 hs rfl rfl ⟨rfl,iR (t:=⟨_,_⟩) hw ⟨hml,hl.2⟩⟩⟩
end
theorem aB8 {cur:List Value} {l:List Int} {n:Nat} (h:cur.take (n*1)=l.map (Value.int .i64)):cur=cU l ++ cur.drop n:=by
 rw [Nat.mul_one] at h;rw [show cU l=cur.take n from h.symm];exact (List.take_append_drop _ _).symm
section
variable {l:List Int} {sl:Value} {L L1:List Res} {x:Int}
theorem aJV (hl:l.length≤7) [c:dH (fun l=>aM sl l) L l L1]:New prog 112 [sl,.int .i64 x] L (Option Addr×Nat) (fun s=> .tuple ⟨[.slice s.1 (pQ l x).1.length s.2,.bool (pQ l x).2]⟩) (fun s=>aM (.slice s.1 (pQ l x).1.length s.2) (pQ l x).1::L):=⟨fun {w W} hw=>by
 refine en Tryz.func112 Tryz.ntmps112 fun a hs=>?_;refine sv hs hw fun a hs=>?_;refine sg hs hw (fun s a W hs hw=>?_) (g:=wS (l:=l) (by omega));refine sv hs hw fun a hs=>?_;refine sn hs hw fun b a W hs hw=>?_;refine mG hs hw (Pick.hd:Pick (aM (.slice s.1 l.length s.2) l) _ _) (by omega) fun a ad cap W hs hw=>?_;have hlen:(l ++ [x]).length=l.length+1:=by simp
 have hpos:0<(l ++ [x]).length:=by omega
 have e:pQ l x=match dB l && dB (dV (l ++ [x])) with|false=>([],false)|true=>(dV (l ++ [x]),true):=rfl
 rw [e];generalize l ++ [x]=m at *;obtain ⟨g,cur,rfl,hcur,hcl,hkc,hcm,hw⟩:=hw.open_own hpos;have hx:=aB8 hcur;rw [hx] at hw;have hxl:cur.length=m.length+(cur.drop m.length).length:=by rw [List.length_drop];omega
 generalize cur.drop m.length=ext at *;refine sv hs hw fun a hs=>?_;refine cl hs ((aGq m (by omega)).ok hw) fun a W hs hw=>?_;have hil:=aB4 m;have hw:Has 0 w W (aM (.slice (some ⟨g,0,none⟩) (dV m).length cap) (dV m)::L):=hw.shut_own (k:=(dV m).length) (size:=1) (cap:=cap) (xs:=cU (dV m)) (by rw [Nat.mul_one,show (dV m).length=(cU (dV m)).length by simp,List.take_left]) (by rw [List.length_append,List.length_map,hil];omega) (by omega) hcm;rw [←hil] at hs;refine sx hs hw fun a W hs hw=>?_;have drop:∀{W},Has 0 w W (aM (.slice (some ⟨g,0,none⟩) (dV m).length cap) (dV m)::L)→Has 0 w W (aM (.slice none 0 0) []::L):=fun h=>(h.d1).nilOwn 3 1;cases c1:dB l with
 |false=>
  rw [c1] at hs;refine sv hs hw fun a hs=>?_;exact rt2 hs rfl rfl rfl ⟨(none,0),rfl,drop hw⟩
 |true=>
 rw [c1] at hs;refine sx hs hw fun a W hs hw=>?_;cases c2:dB (dV m) with
 |false=>
  rw [c2] at hs;refine sv hs hw fun a hs=>?_;exact rt2 hs rfl rfl rfl ⟨(none,0),rfl,drop hw⟩
 |true=>
  rw [c2] at hs;refine sv hs hw fun a hs=>?_
  exact rt2 hs rfl rfl rfl ⟨(some ⟨g,0,none⟩,cap),rfl,hw⟩⟩
theorem aB9 {b:Nat} {E:TypeId} {at_:List Int} (h8:at_.length=8) [c:dH (fun l=>aM sl l) L l L1] (i2:In (aA b (bR at_) E) L):Get prog 293 [sl,.slice (some ⟨b,0,none⟩) 8 8] L (.int .i64 (sJ l at_)) L:=⟨fun {w W} hw=>by
 have hr:∀{W},Has 0 w W L→Rd W 1 sl l.length (bR l):=fun h=>(h.pick c.p).rd_own In.hd;have hr2:∀{W},Has 0 w W L→Rd W 1 (.slice (some ⟨b,0,none⟩) 8 8) 8 (bR at_):=fun h=>h.rd_lit i2 (by rw [List.length_map,h8]) (by omega);obtain ⟨ad0,cap0,rfl⟩:=Has.own_slice (hw.pick c.p)
 let f:Int→Int:=fun x=>if x<(at_.length:Int) then nth at_ x else 0
 have e:sJ l at_=match dB l with|false=>0|true=>nth (dV (l.map f)) (((l.length:Int) - 1).tdiv 2):=rfl
 rw [e];refine en Tryz.func293 Tryz.ntmps293 fun a hs=>?_;refine sx hs hw fun a W hs hw=>?_;cases h:dB l with
 |false=>
  rw [h] at hs;refine sv hs hw fun a hs=>?_;exact rt1 hs rfl rfl ⟨rfl,hw⟩
 |true=>
 rw [h] at hs;have hmem:=aB6 h;have h7:=pZ h;have hpos:0<l.length:=by
  unfold dB at h;rw [Bool.and_eq_true] at h;have:=of_decide_eq_true h.2;omega
 refine sv hs hw fun a hs=>?_;have hw:Has 0 w W (wQ (.slice none 0 0) []::L):=hw.nilOwn 2 1;refine bX (σ:=Nat×Option Addr×Nat) (fun u=>[(1,.slice (some ⟨b,0,none⟩) 8 8),(5,.slice u.2.1 ((l.take u.1).map f).length u.2.2),(12,.slice ad0 l.length cap0),(13,.int .i64 (l.length:Int)),(14,.int .i64 (u.1:Int))]) (fun u=>wQ (.slice u.2.1 ((l.take u.1).map f).length u.2.2) ((l.take u.1).map f)::L) (fun u=>u.1≤l.length) (fun u=>l.length - u.1) (0,none,0) (Nat.zero_le _) hs ⟨rfl,rfl,rfl,rfl,rfl,trivial⟩ hw ?_;clear hs hw;rintro ⟨i,ad,cap⟩ a W hi hs hw;have hi:i≤l.length:=hi;simp only at hs hw;have sub1:∀{W A},Has 0 w W (A::L)→Has 0 w W L:=fun h=>h.d1;refine sv hs hw fun a hs=>?_;refine cI hs (kt:=fun hc=>?_) (kf:=fun hc=>?_)
 ·have hi':i<l.length:=by simpa using hc
  obtain ⟨o,ho,hd⟩:=dP hi';have hm:=hmem o (List.mem_of_getElem? ho);have hn:(l.take (i+1)).map f=(l.take i).map f ++ [nth at_ o]:=by rw [fQ ho,List.map_append];simp [f,h8];omega
  have hk:((l.take i).map f).length≤7:=by rw [List.length_map,List.length_take];omega
  refine sc hs ?_;refine iI hs (hr (sub1 hw)) ho rfl fun a b2 f2 hs=>?_;refine sv hs hw fun a hs=>?_;rw [show decide (o<((8:Nat):Int))=true from decide_eq_true (by omega)] at hs;refine sv hs hw fun a hs=>?_
  refine iI (i:=o.toNat) (l:=at_) (u:=nth at_ o) hs (hr2 (sub1 hw)) (xB h8 (by omega)) h8 (hy:=by
   have:((o.toNat:Nat):Int)=o:=by omega
   rw [this];rfl) fun a b2 f2 hs=>?_
  refine sv hs hw fun a hs=>?_;refine sn hs hw fun b3 a W hs hw=>?_;refine mG hs hw (Pick.hd:Pick (wQ (.slice ad ((l.take i).map f).length cap) ((l.take i).map f)) _ _) (by omega) fun a ad cap W hs hw=>?_;rw [←hn] at hs hw;refine sv hs hw fun a hs=>?_;exact bS (i+1,ad,cap) hs hw hi' (by show l.length - (i+1)<l.length - i;omega) ⟨rfl,rfl,rfl,rfl,bU (i1 (by omega)),trivial⟩
 ·have:l.take i=l:=List.take_of_length_le (by simp at hc;omega);rw [this] at hs hw;have hml:(l.map f).length=l.length:=by simp
  generalize l.map f=m at *;obtain ⟨g,cur,rfl,hcur,hcl,hkc,hcm,hw⟩:=(show Has 0 w W (Sx.Own 2 1 (.slice ad m.length cap) m.length (bR m)::L) from hw).open_own (by omega);have hx:=aB8 hcur;rw [hx] at hw;have hxl:cur.length=m.length+(cur.drop m.length).length:=by rw [List.length_drop];omega
  generalize cur.drop m.length=ext at *;refine sv hs hw fun a hs=>?_;refine cl hs ((aGo m (by omega)).ok hw) fun a W hs hw=>?_;have hil:=aB4 m;generalize dV m=sm at *;refine sv hs hw fun a hs=>?_;obtain ⟨k,hk⟩:∃k:Nat,((l.length:Int) - 1).tdiv 2=(k:Int):=⟨(((l.length:Int) - 1).tdiv 2).toNat,by rw [Int.tdiv_eq_ediv_of_nonneg (by omega)];omega⟩
  have hkl:k<sm.length:=by rw [Int.tdiv_eq_ediv_of_nonneg (by omega)] at hk;omega
  rw [hml,show IntKind.i64.wrap ((IntKind.i64.wrap ((l.length:Int) - 1)).tdiv 2)=(k:Int) by rw [IntWalk.i64_in ((l.length:Int) - 1) (by omega),hk,IntWalk.i64_in _ (by omega)]] at hs;refine eL hs (h0:=by omega) (h1:=by omega) (c:=fun a hs=>?_);rw [Int.toNat_natCast] at hs;refine gC hs (hw:=hw) (hi:=In.hd) (hv:=qK (k:=k) (S:=sm) (ext:=ext) hkl) (k:=fun a hs=>?_);refine sv hs hw fun a hs=>?_;refine rt1 hs rfl rfl ⟨?_,sub1 hw⟩
  rw [hk];rfl⟩
end
end Go.Proofs.YtgpbngfehfbndaaGreatDoor.Sw
