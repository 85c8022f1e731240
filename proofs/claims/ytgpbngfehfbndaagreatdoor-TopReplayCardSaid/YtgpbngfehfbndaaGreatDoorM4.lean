/-
  Texts of the proof, one behind the other (part 4).
-/
import Derived.Test.YtgpbngfehfbndaaGreatDoorM1
import Derived.Test.YtgpbngfehfbndaaGreatDoorM2
import Derived.Test.YtgpbngfehfbndaaGreatDoorM3
import Derived.DataShut
import Derived.Test.YtgpbngfehfbndaaGreatDoorChecked
import Derived.WalkSpells
import Derived.Lib.Hide
import Derived.IntWalk
set_option maxHeartbeats 16000000
set_option linter.unusedVariables false
set_option maxRecDepth 10000
namespace Go.Proofs.YtgpbngfehfbndaaGreatDoor.Sw
open Go.RowKit Go.Sx
def iZ (f:dV) (bt:cR):Bool:=dP bt && (bt.q == IntKind.i64.wrap (cQ f bt.c+1))
def dO (f:dV) (bt:cR):cD:=⟨IntKind.i64.wrap (f.place+1),bt,(dN f.d bt.l).1⟩
def nH (f:dV) (bt:cR):dV:=⟨IntKind.i64.wrap (f.place+1),(dN f.d bt.l).2,f.told.set bt.c.toNat (bt.q,dO f bt)⟩
def next (f:dV) (bt:cR):dV×cD×Bool:=match iZ f bt with|true=>(nH f bt,dO f bt,true)|false=>(f,zeroRow,false)
theorem wA {bt:cR} (h:dP bt=true):(1≤bt.c∧bt.c≤5)∧(1≤bt.q∧bt.q≤1099511627776)∧bt.l.length≤8:=by
 obtain ⟨h1,h2,h3,_⟩:=mI h
 exact ⟨h1,h2,h3.2⟩
theorem wB (w0 W:World) (H:Fh) (p:Nat) (f:dV) (bt:cR) (sv:Value) (R:List Res) (hb:gW bt) (hr:cH H sv bt.l) (hH:(fr w0).le H) (hT:Tabs w0) (hw:Has 0 w0 W (aS H p f::Fz H::R)):
  Calls Tryz.prog 159 ⟨[.pointer (some ⟨p,0,none⟩),.agg ⟨aL bt sv⟩]⟩ W fun e W'=>∃sv' H',e= .returned (.tuple ⟨[.agg ⟨aJ (next f bt).2.1 sv'⟩,.bool (next f bt).2.2]⟩)∧H.le H'∧cH H' sv' (next f bt).2.1.b.l∧Has 0 w0 W' (aS H' p (next f bt).1::Fz H'::R):=by
 obtain ⟨sad,scap,rfl⟩:=hr.slice
 refine enter Tryz.func159 Tryz.ntmps159 rfl rfl fun a hs=>?_
 repeat (first|(refine sxv hs hw ?_;clear hs;intro a hs)|refine sxc hs ?_|(refine sxa hs hw ?_;clear hs hw;intro a b W hw hs)|(refine sxs hs hw ?_;clear hs hw;intro W hs hw))
 obtain ⟨b4,q4⟩:=nm1 hw;subst q4
 obtain ⟨b3,q3⟩:=nm2 hw;subst q3
 have hw:Has 0 w0 _ (aS H p f::aA b4 zrc 68::aA b3 (aL bt (.slice sad bt.l.length scap)) 66::Fz H::R):=hw.pm
 cases hm:dP bt with
 |false=>
  have hN:next f bt=(f,zeroRow,false):=by unfold next iZ;rw [hm];rfl
  rw [hN]
  refine gK (V:=[.pointer (some ⟨p,0,none⟩),.bool false,.bool false,.agg ⟨aL bt (.slice sad bt.l.length scap)⟩,.bool false,.bool true,.bool true,.bool true,undef,undef,undef,undef,undef,undef,undef,undef,.bool true])
   (Rs:=fun D=>aS H p f::aA b4 zrc 68::aA b3 (aL bt (.slice sad bt.l.length scap)) 66::Fz H::R) hs hw (ho:=⟨?_,?_,?_,?_,?c4_1,?_,?_,?_,?_,?_,?_,?_,?_,?_,?_,?_,?_,trivial⟩) (k:=?k_1)
  case c4_1=>
   intro LD D a W hcl hi hp hs hw
   refine zG hs ?_
   refine aF hs (hc:=rW bt.c bt.q bt.l _ _ hb.c hb.q hb.ops (hw.rdH (by repeat (first|exact In.hd|apply In.tl)) hr) (hT.keep (hw.endF (by repeat (first|exact In.hd|apply In.tl)) hH))) (k:=?_);rintro e0 W1 ⟨rfl,hb⟩;refine ⟨_,rfl,?_⟩;clear hs;intro a hs;replace hw:=hw.below hb;clear hb
   rw [show dM bt.c bt.q bt.l=dP bt from rfl,hm] at hs
   refine zG hs ?_
   exact ⟨hs,hw⟩
  case k_1=>
   clear hs hw
   intro a W hs hw
   refine zB hs hw ?_;clear hs hw;intro a W hs hw
   refine rc2 hs rfl rfl hw (In.tl In.hd) rfl rfl ?_
   exact ⟨.slice none 0 0,H,rfl,Fh.le.refl _,jW H,hw.sub (List.Sublist.cons_cons _ (List.Sublist.cons _ (List.Sublist.cons _ (List.Sublist.refl _))))⟩
  all_goals
   intro LD D a W hcl hi hp hs hw
   refine zC hs hw ?_;clear hs;intro a hs
   exact ⟨hs,hw⟩
 |true=>
 obtain ⟨⟨hc1,hc5⟩,⟨hq1,hq2⟩,hl8⟩:=wA hm
 refine gK (V:=[.pointer (some ⟨p,0,none⟩),.bool false,.bool false,.agg ⟨aL bt (.slice sad bt.l.length scap)⟩,.bool true,.bool false,.bool false,.bool false,.pointer (some ⟨b3,0+1,none⟩),.int .i64 bt.q,.pointer (some ⟨p,0,none⟩),.pointer (some ⟨b3,0+0,none⟩),.int .i64 bt.c,.int .i64 (cQ f bt.c),.int .i64 (IntKind.i64.wrap (cQ f bt.c+1)),.bool (bt.q !=IntKind.i64.wrap (cQ f bt.c+1)),.bool (bt.q !=IntKind.i64.wrap (cQ f bt.c+1))])
  (Rs:=fun D=>aS H p f::aA b4 zrc 68::aA b3 (aL bt (.slice sad bt.l.length scap)) 66::Fz H::R) hs hw (ho:=⟨?_,?_,?_,?_,?c4_2,?_,?_,?_,?_,?_,?_,?_,?_,?c13_2,?_,?_,?_,trivial⟩) (k:=?k_2)
 case c4_2=>
  intro LD D a W hcl hi hp hs hw
  refine zG hs ?_
  refine aF hs (hc:=rW bt.c bt.q bt.l _ _ hb.c hb.q hb.ops (hw.rdH (by repeat (first|exact In.hd|apply In.tl)) hr) (hT.keep (hw.endF (by repeat (first|exact In.hd|apply In.tl)) hH))) (k:=?_);rintro e0 W1 ⟨rfl,hb⟩;refine ⟨_,rfl,?_⟩;clear hs;intro a hs;replace hw:=hw.below hb;clear hb
  rw [show dM bt.c bt.q bt.l=dP bt from rfl,hm] at hs
  refine zG hs ?_
  exact ⟨hs,hw⟩
 case c13_2=>
  intro LD D a W hcl hi hp hs hw
  refine zG hs ?_
  refine aF hs (hc:=rZ w0 _ H p f bt.c _ hw) (k:=?_);rintro e0 W1 ⟨rfl,hw1⟩;refine ⟨_,rfl,?_⟩;clear hs hw;intro a hs;have hw:=hw1;clear hw1
  refine zG hs ?_
  exact ⟨hs,hw⟩
 case k_2=>
  clear hs hw
  intro a W hs hw
  replace hw:Has 0 w0 W (aS H p f::aA b4 zrc 68::aA b3 (aL bt (.slice sad bt.l.length scap)) 66::Fz H::R):=hw
  replace hs:Slots a 58 [(0,.pointer (some ⟨p,0,none⟩)),(3,.pointer (some ⟨b3,0,none⟩)),(4,.pointer (some ⟨b4,0,none⟩)),(5,.bool false),(23,.bool (bt.q !=IntKind.i64.wrap (cQ f bt.c+1)))]:=hs.of ⟨rfl,rfl,rfl,rfl,rfl,trivial⟩
  refine zG hs ?_
  cases hq:(bt.q !=IntKind.i64.wrap (cQ f bt.c+1)) with
  |true=>
   have hN:next f bt=(f,zeroRow,false):=by
    unfold next iZ
    have:(bt.q == IntKind.i64.wrap (cQ f bt.c+1))=false:=by simpa using hq
    rw [hm,this];rfl
   rw [hN]
   rw [hq] at hs
   refine zB hs hw ?_;clear hs hw;intro a W hs hw
   refine rc2 hs rfl rfl hw (In.tl In.hd) rfl rfl ?_
   exact ⟨.slice none 0 0,H,rfl,Fh.le.refl _,jW H,hw.sub (List.Sublist.cons_cons _ (List.Sublist.cons _ (List.Sublist.cons _ (List.Sublist.refl _))))⟩
  |false=>
  have hN:next f bt=(nH f bt,dO f bt,true):=by
   unfold next iZ
   have:(bt.q == IntKind.i64.wrap (cQ f bt.c+1))=true:=by simpa using hq
   rw [hm,this];rfl
  rw [hN]
  rw [hq] at hs
  obtain ⟨pd,xs,ht,hw⟩:=nG hw
  refine zB hs hw ?_;clear hs hw;intro a W hs hw
  have hw:Has 0 w0 W (aA p (dB (IntKind.i64.wrap (f.place+1)) pd xs) 271::bI pd f.d::Fz H::bK::aA b4 zrc 68::aA b3 (aL bt (.slice sad bt.l.length scap)) 66::R):=hw.free.pm
  refine fL (σ:=Value×Fh×Nat) (V:=fun u=>[.pointer (some ⟨p,0,none⟩),.pointer (some ⟨p,0,none⟩),.pointer (some ⟨p,0+0,none⟩),.int .i64 (IntKind.i64.wrap (f.place+1)),.agg ⟨aL bt (.slice sad bt.l.length scap)⟩,.pointer (some ⟨p,0,none⟩),.pointer (some ⟨p,0,none⟩),.pointer (some ⟨p,0+1,none⟩),.pointer (some ⟨pd,0,none⟩),.pointer (some ⟨b3,0+2,none⟩),.slice sad bt.l.length scap,.int .i64 (dN f.d bt.l).1,.agg ⟨aJ (dO f bt) (.slice sad bt.l.length scap)⟩,.agg ⟨aJ (dO f bt) (u 13).1⟩,.pointer (some ⟨(u 14).2.2,0,none⟩),.bool true])
   (Rs:=fun u D=>aA p (dB (IntKind.i64.wrap (f.place+1)) pd xs) 271::(if D 11 then bI pd (dN f.d bt.l).2 else bI pd f.d)::(if D 13 then FzF (u 13).2.1 (H.le (u 13).2.1∧cH (u 13).2.1 (u 13).1 bt.l) else Fz H)::(if D 14 then aA (u 14).2.2 (if D 15 then aJ (dO f bt) (u 13).1 else zrc) 68 else bK)::aA b4 zrc 68::aA b3 (aL bt (.slice sad bt.l.length scap)) 66::R) (fun _=>(.nilIface,H,0)) hs hw (hVu:=?vu_3) (ho:=⟨?_,?_,?_,?_,?_,?_,?_,?_,?_,?_,?_,?c11_3,?_,?c13_3,?c14_3,?c15_3,trivial⟩) (k:=?k_3)
  case vu_3=>
   intro u u' j h
   rcases j with _|_|_|_|_|_|_|_|_|_|_|_|_|_|_|j
   all_goals first|rfl|simp [h]
  case c11_3=>
   intro u LD D a W hcl hi hp hs hw
   have h12:=Go.Sx.not_done hcl hi 12 (by kernel_rfl)
   have h13:=Go.Sx.not_done hcl h12 13 (by kernel_rfl)
   simp only [hi,h13,Bool.false_eq_true,if_false] at hw
   repeat (first|(refine sxv hs hw ?_;clear hs;intro a hs)|refine sxc hs ?_|(refine sxa hs hw ?_;clear hs hw;intro a b W hw hs)|(refine sxs hs hw ?_;clear hs hw;intro W hs hw))
   have hw:Has 0 w0 W (bI pd f.d::aA p (dB (IntKind.i64.wrap (f.place+1)) pd xs) 271::Fz H::(if D 14 then aA (u 14).2.2 (if D 15 then aJ (dO f bt) (u 13).1 else zrc) 68 else bK)::aA b4 zrc 68::aA b3 (aL bt (.slice sad bt.l.length scap)) 66::R):=hw.pm
   refine aF hs (hc:=aA3 w0 _ H pd f.d bt.l _ _ hb.ops hr (by repeat (first|exact In.hd|apply In.tl)) hH hT hw) (k:=?_);rintro e0 W1 ⟨rfl,hw1⟩;refine ⟨_,rfl,?_⟩;clear hs hw;intro a hs;have hw:=hw1;clear hw1
   refine zG hs ?_
   refine Or.inl ⟨hs,?_⟩
   show Has 0 w0 _ (aA p (dB (IntKind.i64.wrap (f.place+1)) pd xs) 271::bI pd (dN f.d bt.l).2::(if (Nat.beq 13 11 || D 13)=true then _ else _)::(if D 14 then aA (u 14).2.2 (if D 15 then aJ (dO f bt) (u 13).1 else zrc) 68 else bK)::aA b4 zrc 68::aA b3 (aL bt (.slice sad bt.l.length scap)) 66::R)
   rw [h13]
   exact hw.swap2
  case c13_3=>
   intro u LD D a W hcl hi hp hs hw
   have h15:=Go.Sx.not_done hcl hi 15 (by kernel_rfl)
   simp only [hi,h15,Bool.false_eq_true,if_false] at hw
   repeat (first|(refine sxv hs hw ?_;clear hs;intro a hs)|refine sxc hs ?_|(refine sxa hs hw ?_;clear hs hw;intro a b W hw hs)|(refine sxs hs hw ?_;clear hs hw;intro W hs hw))
   have hw:Has 0 w0 W (Fz H::aA p (dB (IntKind.i64.wrap (f.place+1)) pd xs) 271::(if D 11 then bI pd (dN f.d bt.l).2 else bI pd f.d)::(if D 14 then aA (u 14).2.2 zrc 68 else bK)::aA b4 zrc 68::aA b3 (aL bt (.slice sad bt.l.length scap)) 66::R):=hw.pm
   refine aF hs (hc:=v8 w0 _ H (dO f bt) _ _ (show (dO f bt).b.l.length≤1000 from Nat.le_trans hl8 (by decide)) hr hw) (k:=?_);rintro e0 W1 ⟨sv',H',rfl,h1,h2,hw1⟩;refine ⟨_,rfl,?_⟩;clear hs hw;intro a hs;have hw:=hw1;clear hw1
   refine zG hs ?_
   refine Or.inr ⟨(sv',H',0),hs,?_⟩
   have hw:=hw.fzf (q:=H.le H'∧cH H' sv' bt.l) ⟨h1,h2⟩
   show Has 0 w0 _ (aA p (dB (IntKind.i64.wrap (f.place+1)) pd xs) 271::(if D 11 then bI pd (dN f.d bt.l).2 else bI pd f.d)::FzF H' (H.le H'∧cH H' sv' bt.l)::(if D 14 then aA (u 14).2.2 (if (Nat.beq 15 13 || D 15)=true then _ else _) 68 else bK)::aA b4 zrc 68::aA b3 (aL bt (.slice sad bt.l.length scap)) 66::R)
   rw [h15]
   exact hw.pm
  case c14_3=>
   intro u LD D a W hcl hi hp hs hw
   have h15:=Go.Sx.not_done hcl hi 15 (by kernel_rfl)
   simp only [hi,Bool.false_eq_true,if_false] at hw
   repeat (first|(refine sxv hs hw ?_;clear hs;intro a hs)|refine sxc hs ?_|(refine sxa hs hw ?_;clear hs hw;intro a b W hw hs)|(refine sxs hs hw ?_;clear hs hw;intro W hs hw))
   refine Or.inr ⟨(.nilIface,H,_),hs,?_⟩
   show Has 0 w0 _ (aA p (dB (IntKind.i64.wrap (f.place+1)) pd xs) 271::(if D 11 then bI pd (dN f.d bt.l).2 else bI pd f.d)::(if D 13 then FzF (u 13).2.1 (H.le (u 13).2.1∧cH (u 13).2.1 (u 13).1 bt.l) else Fz H)::aA _ (if (Nat.beq 15 14 || D 15)=true then _ else _) 68::aA b4 zrc 68::aA b3 (aL bt (.slice sad bt.l.length scap)) 66::R)
   rw [h15]
   exact hw.fill (Upd.tl (Upd.tl (Upd.tl Upd.hd)))
  case c15_3=>
   intro u LD D a W hcl hi hp hs hw
   have h13:=Go.Sx.done hp 13 (by kernel_rfl)
   have h14:=Go.Sx.done hp 14 (by kernel_rfl)
   simp only [hi,h13,h14,Bool.false_eq_true,if_false,if_true] at hw
   have hv:cH (u 13).2.1 (u 13).1 bt.l:=by
    have hw2:=hw.perm (B:=FzF (u 13).2.1 (H.le (u 13).2.1∧cH (u 13).2.1 (u 13).1 bt.l)::aA p (dB (IntKind.i64.wrap (f.place+1)) pd xs) 271::(if D 11 then bI pd (dN f.d bt.l).2 else bI pd f.d)::aA (u 14).2.2 zrc 68::aA b4 zrc 68::aA b3 (aL bt (.slice sad bt.l.length scap)) 66::R) (by repeat (first|exact List.Perm.refl _|refine nB (by repeat (first|exact Pick.hd|apply Pick.tl)) ?_))
    exact hw2.unfzf.1.2
   obtain ⟨tad,tcap,e13⟩:=hv.slice
   refine d6 hs (hw:=hw) (vs:=aJ (dO f bt) (u 13).1) (h1:=by rw [e13];rfl) (k:=?_);clear hs hw;intro W hs hw
   refine zG hs ?_
   refine Or.inl ⟨hs,?_⟩
   show Has 0 w0 _ (aA p (dB (IntKind.i64.wrap (f.place+1)) pd xs) 271::(if D 11 then bI pd (dN f.d bt.l).2 else bI pd f.d)::(if (Nat.beq 13 15 || D 13)=true then _ else _)::(if (Nat.beq 14 15 || D 14)=true then _ else _)::aA b4 zrc 68::aA b3 (aL bt (.slice sad bt.l.length scap)) 66::R)
   rw [h13,h14]
   exact hw
  case k_3=>
   clear hs hw
   intro u a W hs hw
   replace hw:Has 0 w0 W (aA p (dB (IntKind.i64.wrap (f.place+1)) pd xs) 271::bI pd (dN f.d bt.l).2::FzF (u 13).2.1 (H.le (u 13).2.1∧cH (u 13).2.1 (u 13).1 bt.l)::aA (u 14).2.2 (aJ (dO f bt) (u 13).1) 68::aA b4 zrc 68::aA b3 (aL bt (.slice sad bt.l.length scap)) 66::R):=hw
   replace hs:Slots a 58 [(0,.pointer (some ⟨p,0,none⟩)),(3,.pointer (some ⟨b3,0,none⟩)),(4,.pointer (some ⟨b4,0,none⟩)),(5,.bool false),(6,.pointer (some ⟨(u 14).2.2,0,none⟩))]:=hs.of ⟨rfl,rfl,rfl,rfl,rfl,trivial⟩
   generalize (u 14).2.2=b6 at *
   generalize (u 13).2.1=H1 at *
   generalize (u 13).1=v1 at *
   clear u
   have hw:Has 0 w0 W (FzF H1 (H.le H1∧cH H1 v1 bt.l)::aA p (dB (IntKind.i64.wrap (f.place+1)) pd xs) 271::bI pd (dN f.d bt.l).2::aA b6 (aJ (dO f bt) v1) 68::aA b4 zrc 68::aA b3 (aL bt (.slice sad bt.l.length scap)) 66::R):=hw.pm
   obtain ⟨⟨hle1,hv1⟩,hw⟩:=hw.unfzf
   obtain ⟨vad,vcap,rfl⟩:=hv1.slice
   have ht1:iY H1 f.told xs:=⟨ht.1,ht.2.mono (TolIn.le hle1)⟩
   have hlen:=aA7 (IntKind.i64.wrap (f.place+1)) pd ht
   have hset:=aFQ ht1 (c:=bt.c.toNat) (by omega) (x:=(bt.q,dO f bt)) (sv:= .slice vad bt.l.length vcap) hv1
   refine zG hs ?_
   have hw:Has 0 w0 W (aA p (dB (IntKind.i64.wrap (f.place+1)) pd xs) 271::Fz H1::bI pd (dN f.d bt.l).2::aA b6 (aJ (dO f bt) (.slice vad bt.l.length vcap)) 68::aA b4 zrc 68::aA b3 (aL bt (.slice sad bt.l.length scap)) 66::R):=hw.pm
   refine gK (V:=[.pointer (some ⟨p,0,none⟩),.pointer (some ⟨b3,0+0,none⟩),.int .i64 bt.c,.pointer (some ⟨b3,0+1,none⟩),.int .i64 bt.q,.agg ⟨aJ (dO f bt) (.slice vad bt.l.length vcap)⟩,.agg ⟨.int .i64 bt.q::aJ (dO f bt) (.slice vad bt.l.length vcap)⟩,.pointer (some ⟨p,0,none⟩),.pointer (some ⟨p,0+2,none⟩),.pointer (some ⟨p,0+2+bt.c.toNat*6,none⟩),.bool true])
    (Rs:=fun D=>(if D 10 then aA p (dB (IntKind.i64.wrap (f.place+1)) pd (ov xs (bt.c.toNat*6) (.int .i64 bt.q::aJ (dO f bt) (.slice vad bt.l.length vcap)))) 271 else aA p (dB (IntKind.i64.wrap (f.place+1)) pd xs) 271)::Fz H1::bI pd (dN f.d bt.l).2::aA b6 (aJ (dO f bt) (.slice vad bt.l.length vcap)) 68::aA b4 zrc 68::aA b3 (aL bt (.slice sad bt.l.length scap)) 66::R) hs hw (ho:=⟨?_,?_,?_,?_,?_,?_,?_,?_,?_,?c9_4,?c10_4,trivial⟩) (k:=?k_4)
   case c9_4=>
    intro LD D a W hcl hi hp hs hw
    refine lG hs (h0:=by omega) (h1:=by omega) (c:=?_);clear hs;intro a hs
    refine zG hs ?_
    exact ⟨hs,hw⟩
   case c10_4=>
    intro LD D a W hcl hi hp hs hw
    simp only [hi,Bool.false_eq_true,if_false] at hw
    refine d6 hs (hw:=hw) (vs:= .int .i64 bt.q::aJ (dO f bt) (.slice vad bt.l.length vcap)) (hl:=by rw [hlen,Nat.ble_eq];show 0+2+bt.c.toNat*6+6≤38;omega) (k:=?_);clear hs hw;intro W hs hw
    refine zG hs ?_
    refine ⟨hs,?_⟩
    have e:ov (dB (IntKind.i64.wrap (f.place+1)) pd xs) (0+2+bt.c.toNat*6) (.int .i64 bt.q::aJ (dO f bt) (.slice vad bt.l.length vcap))=dB (IntKind.i64.wrap (f.place+1)) pd (ov xs (bt.c.toNat*6) (.int .i64 bt.q::aJ (dO f bt) (.slice vad bt.l.length vcap))):=by
     rw [show 0+2+bt.c.toNat*6=bt.c.toNat*6+1+1 by omega]
     rfl
    rw [e] at hw
    exact hw
   case k_4=>
    clear hs hw
    intro a W hs hw
    replace hw:Has 0 w0 W (aA p (dB (IntKind.i64.wrap (f.place+1)) pd (ov xs (bt.c.toNat*6) (.int .i64 bt.q::aJ (dO f bt) (.slice vad bt.l.length vcap)))) 271::Fz H1::bI pd (dN f.d bt.l).2::aA b6 (aJ (dO f bt) (.slice vad bt.l.length vcap)) 68::aA b4 zrc 68::aA b3 (aL bt (.slice sad bt.l.length scap)) 66::R):=hw
    replace hs:Slots a 58 [(0,.pointer (some ⟨p,0,none⟩)),(4,.pointer (some ⟨b4,0,none⟩)),(5,.bool false),(6,.pointer (some ⟨b6,0,none⟩))]:=hs.of ⟨rfl,rfl,rfl,rfl,trivial⟩
    have hw:Has 0 w0 W (aA p (dB (IntKind.i64.wrap (f.place+1)) pd (ov xs (bt.c.toNat*6) (.int .i64 bt.q::aJ (dO f bt) (.slice vad bt.l.length vcap)))) 271::bI pd (dN f.d bt.l).2::Fz H1::aA b6 (aJ (dO f bt) (.slice vad bt.l.length vcap)) 68::aA b4 zrc 68::aA b3 (aL bt (.slice sad bt.l.length scap)) 66::R):=hw.pm
    have hw:=lL (f:=nH f bt) hw hset
    refine zA hs hw ?_;clear hs;intro a hs
    have hw:Has 0 w0 W (Fz H1::aS H1 p (nH f bt)::aA b6 (aJ (dO f bt) (.slice vad bt.l.length vcap)) 68::aA b4 zrc 68::aA b3 (aL bt (.slice sad bt.l.length scap)) 66::R):=hw.swap2
    refine aF hs (hc:=v8 w0 _ H1 (dO f bt) _ _ (show (dO f bt).b.l.length≤1000 from Nat.le_trans hl8 (by decide)) hv1 hw) (k:=?_);rintro e0 W1 ⟨sv',H2,rfl,h1,h2,hw1⟩;refine ⟨_,rfl,?_⟩;clear hs hw;intro a hs;have hw:=hw1;clear hw1
    obtain ⟨uad,ucap,rfl⟩:=h2.slice
    refine zB hs hw ?_;clear hs hw;intro a W hs hw
    have hw:Has 0 w0 _ (aA b4 (aJ (dO f bt) (.slice uad bt.l.length ucap)) 68::aS H1 p (nH f bt)::Fz H2::aA b6 (aJ (dO f bt) (.slice vad bt.l.length vcap)) 68::aA b3 (aL bt (.slice sad bt.l.length scap)) 66::R):=hw.pm
    refine rc2 hs rfl rfl hw In.hd rfl rfl ?_
    have hw:=jX (hw.sub (List.Sublist.cons _ (List.Sublist.refl _))) h1
    exact ⟨_,H2,rfl,hle1.trans h1,h2,hw.sub (List.Sublist.cons_cons _ (List.Sublist.cons_cons _ (List.Sublist.cons _ (List.Sublist.cons _ (List.Sublist.refl _)))))⟩
   all_goals
    intro LD D a W hcl hi hp hs hw
    refine zA hs hw ?_;clear hs;intro a hs
    exact ⟨hs,hw⟩
  all_goals
   intro u LD D a W hcl hi hp hs hw
   refine zA hs hw ?_;clear hs;intro a hs
   exact Or.inl ⟨hs,hw⟩
 all_goals
  intro LD D a W hcl hi hp hs hw
  refine zC hs hw ?_;clear hs;intro a hs
  exact ⟨hs,hw⟩
end Go.Proofs.YtgpbngfehfbndaaGreatDoor.Sw
namespace Go.Sx
open Go.RowKit
theorem aAa {P:Program} {d:Nat} {xs ys:List Value} {f:Field} {fs:List Field} {W:World} {b:Bool} {z cx cy:List Value} (u:Ty P f.type true z) (hn:(f.name != "_")=true) (hx:cut xs f.offset z.length=cx) (hy:cut ys f.offset z.length=cy) (he:(Op.equalIn d f.type (.agg ⟨cx⟩) (.agg ⟨cy⟩)).run P W= .ok b W):
  (Op.eqFields d ⟨xs⟩ ⟨ys⟩ (f::fs)).run P W=if b then (Op.eqFields d ⟨xs⟩ ⟨ys⟩ fs).run P W else .ok false W:=by
 have hn':f.name≠ "_" :=by simpa using hn
 subst hx hy
 rw [fX,fX] at he
 simp only [Op.eqFields,if_pos hn',Sem.run_bind,part,u.isAgg,Result.andThen_ok,if_true,u.sizeOf,Sem.run_pure]
 simp only [List.extract_toArray,List.extract_eq_take_drop]
 rw [show f.offset+z.length - f.offset=z.length by omega,he]
 cases b <;> simp
theorem aAb {P:Program} (d:Nat) {T TI TN TS:TypeId} {zi zn zs:List Value} [IntTy P TI .i64] [IntTy P TN .i64] [StrTy P TS] [ui:Ty P TI false zi] [un:Ty P TN false zn] [us:Ty P TS false zs] (ht:P.underlying T=some (.struct (P.fieldsOf T))) (hp:P.stoodInHeld T=false)
  (hF:(P.fieldsOf T).toList.map (fun f=>(f.name != "_",f.offset,f.type))= [(true,0,TI),(true,1,TN),(true,2,TS)]) (k n:Int) (s:ByteArray) (k' n':Int) (s':ByteArray) (W:World):
  (Op.equalIn (d+2) T (.agg ⟨[.int .i64 k,.int .i64 n,.string s]⟩) (.agg ⟨[.int .i64 k',.int .i64 n',.string s']⟩)).run P W= .ok ((k == k') && (n == n') && (s.toList == s'.toList)) W:=by
 rw [run_equalIn_agg W (d+1) T _ _ ht hp]
 obtain ⟨f0,r0,e0,m0,hr0⟩:=List.map_eq_cons_iff.1 hF
 obtain ⟨f1,r1,e1,m1,hr1⟩:=List.map_eq_cons_iff.1 hr0
 obtain ⟨f2,r2,e2,m2,hr2⟩:=List.map_eq_cons_iff.1 hr1
 have hr3:=List.map_eq_nil_iff.1 hr2
 subst hr3 e2 e1
 rw [e0]
 simp only [Prod.mk.injEq] at m0 m1 m2
 obtain ⟨a0,b0,c0⟩:=m0
 obtain ⟨a1,b1,c1⟩:=m1
 obtain ⟨a2,b2,c2⟩:=m2
 rw [kI (x:= .int .i64 k) (y:= .int .i64 k') (b:=k == k') (z:=zi) (by rw [c0];exact ui) a0 (by rw [b0];rfl) (by rw [b0];rfl) (by rw [c0];exact run_equalIn_int W d TI .i64 .i64 k k' (IntTy.out))]
 rw [kI (x:= .int .i64 n) (y:= .int .i64 n') (b:=n == n') (z:=zn) (by rw [c1];exact un) a1 (by rw [b1];rfl) (by rw [b1];rfl) (by rw [c1];exact run_equalIn_int W d TN .i64 .i64 n n' (IntTy.out))]
 rw [kI (x:= .string s) (y:= .string s') (b:=s.toList == s'.toList) (z:=zs) (by rw [c2];exact us) a2 (by rw [b2];rfl) (by rw [b2];rfl) (by rw [c2];exact run_equalIn_string W d TS s s' (StrTy.out))]
 simp only [Op.eqFields,Sem.run_pure]
 cases k == k' <;> cases n == n' <;> cases s.toList == s'.toList <;> rfl
end Go.Sx
namespace Go.Proofs.YtgpbngfehfbndaaGreatDoor.Sw
open Go.RowKit Go.Sx
theorem aFW (o o':OpD) (W:World):(Op.equalIn 10000 55 (.agg ⟨bT o⟩) (.agg ⟨bT o'⟩)).run Tryz.prog W= .ok (kJ o o') W:=by
 rw [show (10000:Nat)=9999+1 from rfl,run_equalIn_agg W 9999 55 _ _ Tryz.underlying55 (by kernel_rfl)]
 have hF:(Program.fieldsOf Tryz.prog 55).toList.map (fun f=>(f.name != "_",f.offset,f.type))= [(true,0,3),(true,1,9),(true,2,53),(true,5,53),(true,8,2)]:=by kernel_rfl
 obtain ⟨f0,r0,e0,m0,hr0⟩:=List.map_eq_cons_iff.1 hF
 obtain ⟨f1,r1,e1,m1,hr1⟩:=List.map_eq_cons_iff.1 hr0
 obtain ⟨f2,r2,e2,m2,hr2⟩:=List.map_eq_cons_iff.1 hr1
 obtain ⟨f3,r3,e3,m3,hr3⟩:=List.map_eq_cons_iff.1 hr2
 obtain ⟨f4,r4,e4,m4,hr4⟩:=List.map_eq_cons_iff.1 hr3
 have hr5:=List.map_eq_nil_iff.1 hr4
 subst hr5 e4 e3 e2 e1
 rw [e0]
 clear hF hr0 hr1 hr2 hr3 hr4 e0
 simp only [Prod.mk.injEq] at m0 m1 m2 m3 m4
 obtain ⟨a0,b0,c0⟩:=m0
 obtain ⟨a1,b1,c1⟩:=m1
 obtain ⟨a2,b2,c2⟩:=m2
 obtain ⟨a3,b3,c3⟩:=m3
 obtain ⟨a4,b4,c4⟩:=m4
 rw [kI (x:= .int .i64 o.kind) (y:= .int .i64 o'.kind) (b:=o.kind == o'.kind) (z:=[.int .i64 0]) (by rw [c0];infer_instance) a0 (by rw [b0];rfl) (by rw [b0];rfl) (by rw [c0];exact run_equalIn_int W 9998 3 .i64 .i64 _ _ (IntTy.out))]
 rw [kI (x:= .string o.key) (y:= .string o'.key) (b:=o.key.toList == o'.key.toList) (z:=[.string ⟨#[]⟩]) (by rw [c1];infer_instance) a1 (by rw [b1];rfl) (by rw [b1];rfl) (by rw [c1];exact run_equalIn_string W 9998 9 _ _ (StrTy.out))]
 rw [aAa (cx:=[.int .i64 o.vk,.int .i64 o.vn,.string o.vs]) (cy:=[.int .i64 o'.vk,.int .i64 o'.vn,.string o'.vs]) (b:=d8 o.vk o.vn o.vs o'.vk o'.vn o'.vs) (z:=[.int .i64 0,.int .i64 0,.string ⟨#[]⟩]) (by rw [c2];infer_instance) a2 (by rw [b2];rfl) (by rw [b2];rfl) (by rw [c2];exact aAb 9997 Tryz.underlying53 (by kernel_rfl) (by kernel_rfl:_= [(true,0,3),(true,1,2),(true,2,9)]) _ _ _ _ _ _ W)]
 rw [aAa (cx:=[.int .i64 o.ok,.int .i64 o.on,.string o.os]) (cy:=[.int .i64 o'.ok,.int .i64 o'.on,.string o'.os]) (b:=d8 o.ok o.on o.os o'.ok o'.on o'.os) (z:=[.int .i64 0,.int .i64 0,.string ⟨#[]⟩]) (by rw [c3];infer_instance) a3 (by rw [b3];rfl) (by rw [b3];rfl) (by rw [c3];exact aAb 9997 Tryz.underlying53 (by kernel_rfl) (by kernel_rfl:_= [(true,0,3),(true,1,2),(true,2,9)]) _ _ _ _ _ _ W)]
 rw [kI (x:= .int .i64 o.n) (y:= .int .i64 o'.n) (b:=o.n == o'.n) (z:=[.int .i64 0]) (by rw [c4];infer_instance) a4 (by rw [b4];rfl) (by rw [b4];rfl) (by rw [c4];exact run_equalIn_int W 9998 2 .i64 .i64 _ _ (IntTy.out))]
 simp only [Op.eqFields,Sem.run_pure]
 unfold kJ
 cases o.kind == o'.kind <;> cases o.key.toList == o'.key.toList <;> cases d8 o.vk o.vn o.vs o'.vk o'.vn o'.vs <;> cases d8 o.ok o.on o.os o'.ok o'.on o'.os <;> cases o.n == o'.n <;> rfl
section
variable {ops:Array Oper} {aD:List Oper} {Q:Exit→Act→World→Prop} {a:Act} {n:Nat} {L:List (Nat×Value)} {W:World} {d:Nat} {T S':TypeId} {p:String} {e:Array Edge} {x y:Operand} {o o':OpD}
theorem aFX (hs:Slots a n L) (hx:ev L x=some (.agg ⟨bT o⟩):=by with_unfolding_all exact rfl) (hy:ev L y=some (.agg ⟨bT o'⟩):=by with_unfolding_all exact rfl) (hd:Nat.blt d n=true:=by with_unfolding_all exact rfl)
  (c:∀a',Slots a' n ((d,.bool (!kJ o o'))::L)→wpList Tryz.prog ops Q aD a' W):wpList Tryz.prog ops Q (⟨some d,.binOp .neq 55 x y S',T,p,e,none⟩::aD) a W:=
 bO hs hd (by simp only [execOp,hs.ev hx,hs.ev hy,Sem.run_bind];rw [run_eqGuard_agg W .neq 55 x y _ _ (by kernel_rfl)];simp only [Result.andThen_ok];rw [run_neq_struct,aFW];rfl) c
end
def eqL (l l':List OpD):Bool:=(l.length == l'.length) && lK l l'
theorem aAc (l:List OpD) (sv:Value) (l':List OpD) (sv':Value) (w:World) (r:Rd w 9 sv l.length (l.flatMap bT)) (r':Rd w 9 sv' l'.length (l'.flatMap bT)):
  Calls Tryz.prog 280 ⟨[sv,sv']⟩ w fun e w'=>e= .returned (.bool (eqL l l'))∧Below w.heap.size w w':=by
 have hw:=Has.start (G:=0) (w:=w) (Nat.zero_le _)
 obtain ⟨sad,scap,rfl⟩:∃ad cap,sv= .slice ad l.length cap:=by obtain ⟨_,ad,cap,e,_⟩:=r;exact ⟨ad,cap,e⟩
 obtain ⟨tad,tcap,rfl⟩:∃ad cap,sv'= .slice ad l'.length cap:=by obtain ⟨_,ad,cap,e,_⟩:=r';exact ⟨ad,cap,e⟩
 have hlen:l.length≤9223372036854775807:=r.len
 refine enter Tryz.func280 Tryz.ntmps280 rfl rfl fun a hs=>?_
 refine zA hs hw ?_;clear hs;intro a hs
 cases h2:((l.length:Int) !=(l'.length:Int)) with
 |true=>
  rw [h2] at hs
  refine zA hs hw ?_;clear hs;intro a hs
  have h3:¬l.length=l'.length:=by rw [bne_iff_ne] at h2;omega
  exact rt1 hs rfl rfl ⟨by simp [eqL,h3],hw.end (by repeat (first|exact In.hd|apply In.tl))⟩
 |false=>
 rw [h2] at hs
 refine zA hs hw ?_;clear hs;intro a hs
 have hL:l.length=l'.length:=by
  have:(l.length:Int)=(l'.length:Int):=by simpa using h2
  omega
 have hmb:eqL l l'=lK l l':=by simp [eqL,hL]
 rw [hmb]
 clear hmb h2
 refine bX (σ:=Nat) (fun i=>[(0,.slice sad l.length scap),(1,.slice tad l'.length tcap),(12,.int .i64 (l.length:Int)),(13,.int .i64 (i:Int))]) (fun _=>Old w 0:: []) (fun i=>i≤l.length∧lK (l.take i) (l'.take i)=true) (fun i=>l.length - i) 0 ⟨Nat.zero_le _,rfl⟩ hs ⟨rfl,rfl,rfl,rfl,trivial⟩ hw ?_
 clear hs hw
 rintro i a W ⟨hi,ha⟩ hs hw
 refine zA hs hw ?_;clear hs;intro a hs
 refine cI hs (kt:=fun hcc=>?_) (kf:=fun hcc=>?_)
 ·have hi':i<l.length:=by simpa using hcc
  obtain ⟨o,hoi⟩:∃o,l[i]? =some o:=⟨l[i],List.getElem?_eq_getElem hi'⟩
  obtain ⟨o',hoi'⟩:∃o,l'[i]? =some o:=⟨l'[i],List.getElem?_eq_getElem (by omega)⟩
  have hnext:=aFM hoi hoi' ha
  have hall:=aFN hoi hoi'
  obtain ⟨g1,f1,rfl,hg1,hc1⟩:=aA5 r hoi
  obtain ⟨g2,f2,rfl,hg2,hc2⟩:=aA5 r' hoi'
  refine zA hs hw ?_;clear hs;intro a hs
  refine gK (V:=[.slice (some ⟨g1,f1,none⟩) l.length scap,.int .i64 (i:Int),.pointer (some ⟨g1,f1+i*9,none⟩),.agg ⟨bT o⟩,.slice (some ⟨g2,f2,none⟩) l'.length tcap,.int .i64 (i:Int),.pointer (some ⟨g2,f2+i*9,none⟩),.agg ⟨bT o'⟩,.bool (!kJ o o')])
   (Rs:=fun D=>Old w 0:: []) hs hw (ho:=⟨?_,?_,?c2_c,?c3_c,?_,?_,?c6_c,?c7_c,?c8_c,trivial⟩) (k:=?k_c)
  case c2_c=>
   intro LD D a W hcl hi hp hs hw
   refine eG hs (z:=bT ⟨0,⟨#[]⟩,0,0,⟨#[]⟩,0,0,⟨#[]⟩,0⟩) (h0:=by omega) (h1:=by omega) (c:=?_);clear hs;intro a hs
   refine zG hs ?_
   exact ⟨hs,hw⟩
  case c6_c=>
   intro LD D a W hcl hi hp hs hw
   refine eG hs (z:=bT ⟨0,⟨#[]⟩,0,0,⟨#[]⟩,0,0,⟨#[]⟩,0⟩) (h0:=by omega) (h1:=by omega) (c:=?_);clear hs;intro a hs
   refine zG hs ?_
   exact ⟨hs,hw⟩
  case c3_c=>
   intro LD D a W hcl hi hp hs hw
   refine eC (z:=bT ⟨0,⟨#[]⟩,0,0,⟨#[]⟩,0,0,⟨#[]⟩,0⟩) hs (hc:=fun j u h=>((hw.end In.hd).cell hg1).trans (hc1 j u h)) (hl:=rfl) (c:=?_);clear hs;intro a hs
   refine zG hs ?_
   exact ⟨hs,hw⟩
  case c7_c=>
   intro LD D a W hcl hi hp hs hw
   refine eC (z:=bT ⟨0,⟨#[]⟩,0,0,⟨#[]⟩,0,0,⟨#[]⟩,0⟩) hs (hc:=fun j u h=>((hw.end In.hd).cell hg2).trans (hc2 j u h)) (hl:=rfl) (c:=?_);clear hs;intro a hs
   refine zG hs ?_
   exact ⟨hs,hw⟩
  case c8_c=>
   intro LD D a W hcl hi hp hs hw
   refine aFX hs (c:=?_);clear hs;intro a hs
   refine zG hs ?_
   exact ⟨hs,hw⟩
  case k_c=>
   clear hs hw
   intro a W hs hw
   replace hs:Slots a 26 [(24,.bool (!kJ o o')),(0,.slice (some ⟨g1,f1,none⟩) l.length scap),(1,.slice (some ⟨g2,f2,none⟩) l'.length tcap),(12,.int .i64 (l.length:Int)),(13,.int .i64 (i:Int))]:=hs.of ⟨rfl,rfl,rfl,rfl,rfl,trivial⟩
   cases he:kJ o o' with
   |false=>
    rw [he] at hs
    refine zA hs hw ?_;clear hs;intro a hs
    exact rt1 hs rfl rfl ⟨by rw [hall he],hw.end (by repeat (first|exact In.hd|apply In.tl))⟩
   |true=>
    rw [he] at hs hnext
    refine zA hs hw ?_;clear hs;intro a hs
    exact bR (i+1) hs hw ⟨hi',hnext⟩ (by show l.length - (i+1)<l.length - i;omega) ⟨rfl,rfl,rfl,bS (by show IntKind.i64.wrap ((i:Int)+1)=((i+1:Nat):Int);rw [IntWalk.i64_in _ (by omega)];omega),trivial⟩
  all_goals
   intro LD D a W hcl hi hp hs hw
   refine zA hs hw ?_;clear hs;intro a hs
   exact ⟨hs,hw⟩
 ·have hi':i=l.length:=by
   have:¬i<l.length:=by simpa using hcc
   omega
  subst hi'
  rw [List.take_length,hL,List.take_length] at ha
  refine zA hs hw ?_;clear hs;intro a hs
  exact rt1 hs rfl rfl ⟨by rw [ha],hw.end (by repeat (first|exact In.hd|apply In.tl))⟩
def jG (a b:cD):Bool:=(a.place == b.place) && ((a.err == b.err) && ((a.b.c == b.b.c) && ((a.b.q == b.b.q) && eqL a.b.l b.b.l)))
theorem aFY (x y:cD) (sv sv':Value) (w:World) (r:Rd w 9 sv x.b.l.length (x.b.l.flatMap bT)) (r':Rd w 9 sv' y.b.l.length (y.b.l.flatMap bT)):
  Calls Tryz.prog 305 ⟨[.agg ⟨aJ x sv⟩,.agg ⟨aJ y sv'⟩]⟩ w fun e w'=>e= .returned (.bool (jG x y))∧Below w.heap.size w w':=by
 have hw:=Has.start (G:=0) (w:=w) (Nat.zero_le _)
 refine enter Tryz.func305 Tryz.ntmps305 rfl rfl fun a hs=>?_
 repeat (first|(refine sxv hs hw ?_;clear hs;intro a hs)|refine sxc hs ?_|(refine sxa hs hw ?_;clear hs hw;intro a b W hw hs)|(refine sxs hs hw ?_;clear hs hw;intro W hs hw))
 unfold jG
 cases h1:(x.place == y.place) with
 |false=>
  rw [h1] at hs
  refine zA hs hw ?_;clear hs;intro a hs
  exact rt1 hs rfl rfl ⟨rfl,hw.end (by repeat (first|exact In.hd|apply In.tl))⟩
 |true=>
 rw [h1] at hs
 refine zA hs hw ?_;clear hs;intro a hs
 cases h2:(x.err == y.err) with
 |false=>
  rw [h2] at hs
  refine zA hs hw ?_;clear hs;intro a hs
  exact rt1 hs rfl rfl ⟨rfl,hw.end (by repeat (first|exact In.hd|apply In.tl))⟩
 |true=>
 rw [h2] at hs
 refine zA hs hw ?_;clear hs;intro a hs
 cases h3:(x.b.c == y.b.c) with
 |false=>
  rw [h3] at hs
  refine zA hs hw ?_;clear hs;intro a hs
  exact rt1 hs rfl rfl ⟨rfl,hw.end (by repeat (first|exact In.hd|apply In.tl))⟩
 |true=>
 rw [h3] at hs
 refine zA hs hw ?_;clear hs;intro a hs
 cases h4:(x.b.q == y.b.q) with
 |false=>
  rw [h4] at hs
  refine zA hs hw ?_;clear hs;intro a hs
  exact rt1 hs rfl rfl ⟨rfl,hw.end (by repeat (first|exact In.hd|apply In.tl))⟩
 |true=>
 rw [h4] at hs
 refine zA hs hw ?_;clear hs;intro a hs
 refine aF hs (hc:=aAc x.b.l sv y.b.l sv' _ (hw.rd (by repeat (first|exact In.hd|apply In.tl)) hw.ext.size r) (hw.rd (by repeat (first|exact In.hd|apply In.tl)) hw.ext.size r')) (k:=?_);rintro e0 W1 ⟨rfl,hb⟩;refine ⟨_,rfl,?_⟩;clear hs;intro a hs;replace hw:=hw.below hb;clear hb
 refine zA hs hw ?_;clear hs;intro a hs
 exact rt1 hs rfl rfl ⟨rfl,hw.end (by repeat (first|exact In.hd|apply In.tl))⟩
structure eK where
 f:dV
 l:List cD
def aT (H:Fh) (p:Nat) (s:eK):Res:=Ex fun x:Nat×Value×List Value=>aA p [.pointer (some ⟨x.1,0,none⟩),x.2.1] 186::aS H x.1 s.f::Sx.Own 68 5 x.2.1 s.l.length x.2.2::bN (Ch (RowIn H) s.l x.2.2):: []
section
variable {G p pf:Nat} {w W:World} {R:List Res} {s:eK} {H H':Fh} {v:Value} {xs:List Value}
theorem iD (h:Has G w W (aA p [.pointer (some ⟨pf,0,none⟩),v] 186::aS H pf s.f::Sx.Own 68 5 v s.l.length xs::R)) (hc:Ch (RowIn H) s.l xs):Has G w W (aT H p s::R):=
 Has.shut (pf,v,xs) ((h.fact hc).pm)
theorem lM (h:Has G w W (aT H p s::R)):∃pf vad vcap xs,Ch (RowIn H) s.l xs∧Has G w W (aA p [.pointer (some ⟨pf,0,none⟩),.slice vad s.l.length vcap] 186::aS H pf s.f::Sx.Own 68 5 (.slice vad s.l.length vcap) s.l.length xs::R):=by
 obtain ⟨⟨pf,v,xs⟩,h⟩:=Has.open h
 have h:Has G w W (aA p [.pointer (some ⟨pf,0,none⟩),v] 186::aS H pf s.f::Sx.Own 68 5 v s.l.length xs::bN (Ch (RowIn H) s.l xs)::R):=h
 have hf:=h.told (In.tl (In.tl (In.tl In.hd)))
 have h:Has G w W (aA p [.pointer (some ⟨pf,0,none⟩),v] 186::aS H pf s.f::Sx.Own 68 5 v s.l.length xs::R):=h.sub (List.Sublist.cons_cons _ (List.Sublist.cons_cons _ (List.Sublist.cons_cons _ (List.Sublist.cons _ (List.Sublist.refl _)))))
 have h2:Has G w W (Sx.Own 68 5 v s.l.length xs::aA p [.pointer (some ⟨pf,0,none⟩),v] 186::aS H pf s.f::R):=h.pm
 obtain ⟨ad,cap,rfl⟩:=h2.own_slice
 exact ⟨pf,ad,cap,xs,hf,h⟩
theorem aAd (h:Has G w W (aT H p s::R)) (hl:H.le H'):Has G w W (aT H' p s::R):=by
 obtain ⟨pf,ad,cap,xs,h1,h2⟩:=lM h
 exact iD (jX h2.swap2 hl).swap2 (h1.mono (RowIn.le hl))
end
theorem aFZ (w0 W:World) (H:Fh) (R:List Res) (hw:Has 0 w0 W R):
  Calls Tryz.prog 199 ⟨[]⟩ W fun e W'=>∃p,e= .returned (.pointer (some ⟨p,0,none⟩))∧Has 0 w0 W' (aT H p ⟨fT,[]⟩::R):=by
 refine enter Tryz.func199 Tryz.ntmps199 rfl rfl fun a hs=>?_
 refine zA hs hw ?_;clear hs;intro a hs
 refine aF hs (hc:=aA8 w0 _ H _ hw) (k:=?_);rintro e0 W1 ⟨c,rfl,hw1⟩;refine ⟨_,rfl,?_⟩;clear hs hw;intro a hs;have hw:=hw1;clear hw1
 repeat (first|(refine sxv hs hw ?_;clear hs;intro a hs)|refine sxc hs ?_|(refine sxa hs hw ?_;clear hs hw;intro a b W hw hs)|(refine sxs hs hw ?_;clear hs hw;intro W hs hw))
 refine rt1 hs rfl rfl ⟨_,rfl,?_⟩
 have hw:=hw.nilOwn 68 5
 exact iD (s:=⟨fT,[]⟩) (xs:=[]) (hw.pm) rfl
theorem r5 (w0 W:World) (H:Fh) (p:Nat) (s:eK) (R:List Res) (hl:s.l.length≤1000000) (hw:Has 0 w0 W (aT H p s::R)):
  Calls Tryz.prog 181 ⟨[.pointer (some ⟨p,0,none⟩)]⟩ W fun e W'=>e= .returned (.int .i64 ((s.l.length:Int)+1))∧Has 0 w0 W' (aT H p s::R):=by
 obtain ⟨pf,ad,cap,xs,hc,hw⟩:=lM hw
 refine enter Tryz.func181 Tryz.ntmps181 rfl rfl fun a hs=>?_
 refine zC hs hw ?_;clear hs;intro a hs
 refine rt1 hs rfl rfl ⟨?_,iD hw hc⟩
 rw [IntWalk.i64_in _ (by omega)]
theorem aF0 (w0 W:World) (H:Fh) (p:Nat) (s:eK) (R:List Res) (hw:Has 0 w0 W (aT H p s::R)):
  Calls Tryz.prog 107 ⟨[.pointer (some ⟨p,0,none⟩)]⟩ W fun e W'=>∃q,e= .returned (.pointer (some ⟨q,0,none⟩))∧Has 0 w0 W' (aS H q s.f::aT H p s::R):=by
 obtain ⟨pf,ad,cap,xs,hc,hw⟩:=lM hw
 refine enter Tryz.func107 Tryz.ntmps107 rfl rfl fun a hs=>?_
 refine zC hs hw ?_;clear hs;intro a hs
 refine aF hs (hc:=v7 w0 _ H pf s.f _ hw.swap2) (k:=?_);rintro e0 W1 ⟨q,rfl,hw1⟩;refine ⟨_,rfl,?_⟩;clear hs hw;intro a hs;have hw:=hw1;clear hw1
 refine zA hs hw ?_;clear hs;intro a hs
 have hw:Has 0 w0 _ (aA p [.pointer (some ⟨pf,0,none⟩),.slice ad s.l.length cap] 186::aS H pf s.f::Sx.Own 68 5 (.slice ad s.l.length cap) s.l.length xs::aS H q s.f::R):=hw.pm
 exact rt1 hs rfl rfl ⟨q,rfl,(iD hw hc).swap2⟩
def one (s:eK) (r:cD):eK×Bool×Int:=
 if r.place > (s.l.length:Int)+1 then (s,false,2)
 else if r.place<(s.l.length:Int)+1 then
  if r.place<1∨¬(∃x,s.l[(r.place - 1).toNat]? =some x∧jG r x=true) then (s,false,1) else (s,false,0)
 else if (next s.f r.b).2.2=true∧(next s.f r.b).2.1.err=r.err then (⟨(next s.f r.b).1,s.l ++ [r]⟩,true,0) else (s,false,1)
theorem aF1 (w0 W:World) (H:Fh) (p:Nat) (s:eK) (r:cD) (sv:Value) (R:List Res) (hl:s.l.length≤1000000) (hi64:i64 r.place) (hb:gW r.b) (hr:cH H sv r.b.l) (hH:(fr w0).le H) (hT:Tabs w0) (hw:Has 0 w0 W (aT H p s::Fz H::R)):
  Calls Tryz.prog 281 ⟨[.pointer (some ⟨p,0,none⟩),.agg ⟨aJ r sv⟩]⟩ W fun e W'=>∃H',e= .returned (.tuple ⟨[.bool (one s r).2.1,.int .i64 (one s r).2.2]⟩)∧H.le H'∧Has 0 w0 W' (aT H' p (one s r).1::Fz H'::R):=by
 obtain ⟨sad,scap,rfl⟩:=hr.slice
 refine enter Tryz.func281 Tryz.ntmps281 rfl rfl fun a hs=>?_
 repeat (first|(refine sxv hs hw ?_;clear hs;intro a hs)|refine sxc hs ?_|(refine sxa hs hw ?_;clear hs hw;intro a b W hw hs)|(refine sxs hs hw ?_;clear hs hw;intro W hs hw))
 obtain ⟨b3,q3⟩:=nm1 hw;subst q3
 have hw:Has 0 w0 _ (aT H p s::aA b3 (aJ r (.slice sad r.b.l.length scap)) 68::Fz H::R):=hw.pm
 refine gK (V:=[.pointer (some ⟨b3,0+0,none⟩),.int .i64 r.place,.pointer (some ⟨p,0,none⟩),.int .i64 ((s.l.length:Int)+1),.bool (decide (r.place > (s.l.length:Int)+1)),.bool (decide (r.place > (s.l.length:Int)+1))])
  (Rs:=fun D=>aT H p s::aA b3 (aJ r (.slice sad r.b.l.length scap)) 68::Fz H::R) hs hw (ho:=⟨?_,?_,?_,?c3_1,?_,?_,trivial⟩) (k:=?k_1)
 case c3_1=>
  intro LD D a W hcl hi hp hs hw
  refine aF hs (hc:=r5 w0 _ H p s _ hl hw) (k:=?_);rintro e0 W1 ⟨rfl,hw1⟩;refine ⟨_,rfl,?_⟩;clear hs hw;intro a hs;have hw:=hw1;clear hw1
  refine zG hs ?_
  exact ⟨hs,hw⟩
 case k_1=>
  clear hs hw
  intro a W hs hw
  replace hs:Slots a 74 [(0,.pointer (some ⟨p,0,none⟩)),(3,.pointer (some ⟨b3,0,none⟩)),(9,.bool (decide (r.place > (s.l.length:Int)+1)))]:=hs.of ⟨rfl,rfl,rfl,trivial⟩
  replace hw:Has 0 w0 W (aT H p s::aA b3 (aJ r (.slice sad r.b.l.length scap)) 68::Fz H::R):=hw
  cases h9:decide (r.place > (s.l.length:Int)+1) with
  |true=>
   rw [h9] at hs
   have hX:one s r=(s,false,2):=by unfold one;rw [if_pos (of_decide_eq_true h9)]
   rw [hX]
   refine zA hs hw ?_;clear hs;intro a hs
   exact rt2 hs rfl rfl rfl ⟨H,rfl,Fh.le.refl _,hw.drop2⟩
  |false=>
  rw [h9] at hs
  refine zG hs ?_
  refine gK (V:=[.pointer (some ⟨b3,0+0,none⟩),.int .i64 r.place,.pointer (some ⟨p,0,none⟩),.int .i64 ((s.l.length:Int)+1),.bool (decide (r.place<(s.l.length:Int)+1)),.bool (decide (r.place<(s.l.length:Int)+1))])
   (Rs:=fun D=>aT H p s::aA b3 (aJ r (.slice sad r.b.l.length scap)) 68::Fz H::R) hs hw (ho:=⟨?_,?_,?_,?c3_2,?_,?_,trivial⟩) (k:=?k_2)
  case c3_2=>
   intro LD D a W hcl hi hp hs hw
   refine aF hs (hc:=r5 w0 _ H p s _ hl hw) (k:=?_);rintro e0 W1 ⟨rfl,hw1⟩;refine ⟨_,rfl,?_⟩;clear hs hw;intro a hs;have hw:=hw1;clear hw1
   refine zG hs ?_
   exact ⟨hs,hw⟩
  case k_2=>
   clear hs hw
   intro a W hs hw
   replace hs:Slots a 74 [(0,.pointer (some ⟨p,0,none⟩)),(3,.pointer (some ⟨b3,0,none⟩)),(15,.bool (decide (r.place<(s.l.length:Int)+1)))]:=hs.of ⟨rfl,rfl,rfl,trivial⟩
   replace hw:Has 0 w0 W (aT H p s::aA b3 (aJ r (.slice sad r.b.l.length scap)) 68::Fz H::R):=hw
   have g9:=of_decide_eq_false h9
   cases h15:decide (r.place<(s.l.length:Int)+1) with
   |true=>
    rw [h15] at hs
    have g15:=of_decide_eq_true h15
    have hX:one s r=if r.place<1∨¬(∃x,s.l[(r.place - 1).toNat]? =some x∧jG r x=true) then (s,false,1) else (s,false,0):=by unfold one;rw [if_neg g9,if_pos g15]
    obtain ⟨pf,vad,vcap,xs,hch,hw⟩:=lM hw
    have hw:Has 0 w0 W (aA p [.pointer (some ⟨pf,0,none⟩),.slice vad s.l.length vcap] 186::aS H pf s.f::Sx.Own 68 5 (.slice vad s.l.length vcap) s.l.length xs::aA b3 (aJ r (.slice sad r.b.l.length scap)) 68::Fz H::R):=hw
    refine zG hs ?_
    cases h1:decide (r.place<1) with
    |true=>
     rw [hX,if_pos (.inl (of_decide_eq_true h1))]
     refine gK (V:=[.pointer (some ⟨b3,0+0,none⟩),.int .i64 r.place,.bool true,.bool true,undef,undef,undef,undef,undef,undef,undef,undef,undef,undef,undef,undef,.bool true])
      (Rs:=fun D=>aA p [.pointer (some ⟨pf,0,none⟩),.slice vad s.l.length vcap] 186::aS H pf s.f::Sx.Own 68 5 (.slice vad s.l.length vcap) s.l.length xs::aA b3 (aJ r (.slice sad r.b.l.length scap)) 68::Fz H::R) hs hw (ho:=⟨?_,?_,?c2_3,?_,?_,?_,?_,?_,?_,?_,?_,?_,?_,?_,?_,?_,?_,trivial⟩) (k:=?k_3)
     case c2_3=>
      intro LD D a W hcl hi hp hs hw
      refine zA hs hw ?_;clear hs;intro a hs
      rw [h1] at hs
      exact ⟨hs,hw⟩
     case k_3=>
      clear hs hw
      intro a W hs hw
      refine zA hs hw ?_;clear hs;intro a hs
      exact rt2 hs rfl rfl rfl ⟨H,rfl,Fh.le.refl _,(iD hw hch).drop2⟩
     all_goals
      intro LD D a W hcl hi hp hs hw
      refine zA hs hw ?_;clear hs;intro a hs
      exact ⟨hs,hw⟩
    |false=>
     have g1:=of_decide_eq_false h1
     obtain ⟨i,hi0⟩:∃i:Nat,r.place - 1=i:=⟨(r.place - 1).toNat,by omega⟩
     have hi':i<s.l.length:=by omega
     have hwrap:IntKind.i64.wrap (r.place - 1)=(i:Int):=by rw [IntWalk.i64_in _ (by omega)];omega
     obtain ⟨x,hx⟩:∃x,s.l[i]? =some x:=⟨s.l[i],List.getElem?_eq_getElem hi'⟩
     obtain ⟨cx,⟨tv,rfl,hxv⟩,hcx,hcut⟩:=hch.get RowIn.len hx
     have hX2:one s r=if jG r x=true then (s,false,0) else (s,false,1):=by
      rw [hX,hi0,Int.toNat_natCast]
      cases hsm:jG r x with
      |true=>rw [if_neg,if_pos rfl];rintro (h|h);exact g1 h;exact h ⟨x,hx,hsm⟩
      |false=>rw [if_pos,if_neg (by decide)];exact .inr fun ⟨y,hy,hs⟩=>by rw [hx] at hy;cases hy;rw [hsm] at hs;cases hs
     rw [hX2]
     clear hX hX2
     have hwo:Has 0 w0 W (Sx.Own 68 5 (.slice vad s.l.length vcap) s.l.length xs::aA p [.pointer (some ⟨pf,0,none⟩),.slice vad s.l.length vcap] 186::aS H pf s.f::aA b3 (aJ r (.slice sad r.b.l.length scap)) 68::Fz H::R):=hw.pm
     obtain ⟨g,cur,hadg,hcur,hcl0,hkc,hcm,hwo⟩:=hwo.open_own (by omega)
     obtain rfl:=hadg
     have hcut2:∀j u,(aJ x tv)[j]? =some u→cur[i*5+j]? =some u:=by
      intro j u hu
      have h1:=congrArg (fun t=>t[j]?) hcut
      simp only [fX,List.getElem?_take,List.getElem?_drop,hu] at h1
      split at h1
      ·rw [←hcur,List.getElem?_take] at h1
       split at h1
       ·exact h1
       ·cases h1
      ·cases h1
     have hw:Has 0 w0 W (aA g cur 68::aA p [.pointer (some ⟨pf,0,none⟩),.slice (some ⟨g,0,none⟩) s.l.length vcap] 186::aS H pf s.f::aA b3 (aJ r (.slice sad r.b.l.length scap)) 68::Fz H::R):=hwo
     obtain ⟨tad,tcap,rfl⟩:=hxv.slice
     refine gK (V:=[.pointer (some ⟨b3,0+0,none⟩),.int .i64 r.place,.bool false,.bool false,.agg ⟨aJ r (.slice sad r.b.l.length scap)⟩,.pointer (some ⟨p,0,none⟩),.pointer (some ⟨p,0,none⟩),.pointer (some ⟨p,0+1,none⟩),.slice (some ⟨g,0,none⟩) s.l.length vcap,.pointer (some ⟨b3,0+0,none⟩),.int .i64 r.place,.int .i64 (i:Int),.pointer (some ⟨g,0+i*5,none⟩),.agg ⟨aJ x (.slice tad x.b.l.length tcap)⟩,.bool (jG r x),.bool (!jG r x),.bool (!jG r x)])
      (Rs:=fun D=>aA g cur 68::aA p [.pointer (some ⟨pf,0,none⟩),.slice (some ⟨g,0,none⟩) s.l.length vcap] 186::aS H pf s.f::aA b3 (aJ r (.slice sad r.b.l.length scap)) 68::Fz H::R) hs hw (ho:=⟨?_,?_,?c2_4,?_,?_,?_,?_,?_,?_,?_,?_,?c11_4,?c12_4,?c13_4,?c14_4,?_,?_,trivial⟩) (k:=?k_4)
     case c2_4=>
      intro LD D a W hcl hi hp hs hw
      refine zA hs hw ?_;clear hs;intro a hs
      rw [h1] at hs
      exact ⟨hs,hw⟩
     case c11_4=>
      intro LD D a W hcl hi hp hs hw
      refine zA hs hw ?_;clear hs;intro a hs
      rw [hwrap] at hs
      exact ⟨hs,hw⟩
     case c12_4=>
      intro LD D a W hcl hi hp hs hw
      refine zG hs ?_
      refine eG hs (z:=zrc) (h0:=by omega) (h1:=by omega) (c:=?_);clear hs;intro a hs
      refine zG hs ?_
      exact ⟨hs,hw⟩
     case c13_4=>
      intro LD D a W hcl hi hp hs hw
      refine zG hs ?_
      refine eC (z:=zrc) hs (cs:=aJ x (.slice tad x.b.l.length tcap)) (hc:=fun j u h=>by rw [hC (hw.block In.hd).1,Nat.zero_add];exact hcut2 j u h) (hl:=by rfl) (c:=?_);clear hs;intro a hs
      refine zG hs ?_
      exact ⟨hs,hw⟩
     case c14_4=>
      intro LD D a W hcl hi hp hs hw
      refine zG hs ?_
      refine aF hs (hc:=aFY r x _ _ _ (hw.rdH (by repeat (first|exact In.hd|apply In.tl)) hr) (hw.rdH (by repeat (first|exact In.hd|apply In.tl)) hxv)) (k:=?_);rintro e0 W1 ⟨rfl,hb⟩;refine ⟨_,rfl,?_⟩;clear hs;intro a hs;replace hw:=hw.below hb;clear hb
      refine zG hs ?_
      exact ⟨hs,hw⟩
     case k_4=>
      clear hs hw
      intro a W hs hw
      replace hs:Slots a 74 [(37,.bool (!jG r x))]:=hs.of ⟨rfl,trivial⟩
      replace hw:Has 0 w0 W (aA g cur 68::aA p [.pointer (some ⟨pf,0,none⟩),.slice (some ⟨g,0,none⟩) s.l.length vcap] 186::aS H pf s.f::aA b3 (aJ r (.slice sad r.b.l.length scap)) 68::Fz H::R):=hw
      have hw:=hw.shut_own (k:=s.l.length) (size:=5) hcur hcl0 hkc hcm
      have hw:Has 0 w0 W (aA p [.pointer (some ⟨pf,0,none⟩),.slice (some ⟨g,0,none⟩) s.l.length vcap] 186::aS H pf s.f::Sx.Own 68 5 (.slice (some ⟨g,0,none⟩) s.l.length vcap) s.l.length xs::aA b3 (aJ r (.slice sad r.b.l.length scap)) 68::Fz H::R):=hw.pm
      have hw:=iD hw hch
      cases hsm:jG r x with
      |true=>
       rw [hsm] at hs
       refine zA hs hw ?_;clear hs;intro a hs
       exact rt2 hs rfl rfl rfl ⟨H,rfl,Fh.le.refl _,hw.drop2⟩
      |false=>
       rw [hsm] at hs
       refine zA hs hw ?_;clear hs;intro a hs
       exact rt2 hs rfl rfl rfl ⟨H,rfl,Fh.le.refl _,hw.drop2⟩
     all_goals
      intro LD D a W hcl hi hp hs hw
      refine zA hs hw ?_;clear hs;intro a hs
      exact ⟨hs,hw⟩
   |false=>
   rw [h15] at hs
   have g15:=of_decide_eq_false h15
   have hX:one s r=if (next s.f r.b).2.2=true∧(next s.f r.b).2.1.err=r.err then (⟨(next s.f r.b).1,s.l ++ [r]⟩,true,0) else (s,false,1):=by unfold one;rw [if_neg g9,if_neg g15]
   obtain ⟨pf,vad,vcap,xs,hch,hw⟩:=lM hw
   refine zC hs hw ?_;clear hs;intro a hs
   refine aF hs (hc:=v7 w0 _ H pf s.f _ hw.swap2) (k:=?_);rintro e0 W1 ⟨q,rfl,hw1⟩;refine ⟨_,rfl,?_⟩;clear hs hw;intro a hs;have hw:=hw1;clear hw1
   have hw:Has 0 w0 _ (aS H q s.f::Fz H::aA p [.pointer (some ⟨pf,0,none⟩),.slice vad s.l.length vcap] 186::aS H pf s.f::Sx.Own 68 5 (.slice vad s.l.length vcap) s.l.length xs::aA b3 (aJ r (.slice sad r.b.l.length scap)) 68::R):=hw.pm
   refine zA hs hw ?_;clear hs;intro a hs
   refine aF hs (hc:=wB w0 _ H q s.f r.b _ _ hb hr hH hT hw) (k:=?_);rintro e0 W1 ⟨xv,H1,rfl,hle0,hxv,hw1⟩;refine ⟨_,rfl,?_⟩;clear hs hw;intro a hs;have hw:=hw1;clear hw1
   replace hr:=hr.le hle0
   obtain ⟨x,hxe⟩:∃x,(next s.f r.b).2.1=x:=⟨_,rfl⟩
   obtain ⟨f1,hfe⟩:∃x,(next s.f r.b).1=x:=⟨_,rfl⟩
   obtain ⟨ok,hoe⟩:∃x,(next s.f r.b).2.2=x:=⟨_,rfl⟩
   have hr8:ok=true→r.b.l.length≤1000:=fun h=>by
    have:iZ s.f r.b=true:=by
     unfold next at hoe
     cases hn:iZ s.f r.b with
     |true=>rfl
     |false=>rw [hn] at hoe;rw [←hoe] at h;cases h
    unfold iZ at this
    have:=(wA (Bool.and_eq_true _ _ |>.mp this).1).2.2
    omega
   rw [hxe] at hs hxv hX
   rw [hoe] at hs hX
   rw [hfe] at hX hw
   obtain ⟨xad,xcap,rfl⟩:=hxv.slice
   repeat (first|(refine sxv hs hw ?_;clear hs;intro a hs)|refine sxc hs ?_|(refine sxa hs hw ?_;clear hs hw;intro a b W hw hs)|(refine sxs hs hw ?_;clear hs hw;intro W hs hw))
   obtain ⟨b7,q7⟩:=nm1 hw;subst q7
   have hw:Has 0 w0 _ (aS H pf s.f::aA p [.pointer (some ⟨pf,0,none⟩),.slice vad s.l.length vcap] 186::Sx.Own 68 5 (.slice vad s.l.length vcap) s.l.length xs::Fz H1::aS H1 q f1::aA b7 (aJ x (.slice xad x.b.l.length xcap)) 68::aA b3 (aJ r (.slice sad r.b.l.length scap)) 68::R):=hw.pm
   have hw:=(jX hw hle0).swap2
   replace hch:=hch.mono (RowIn.le hle0)
   have hend:(∃H',Ending.returned (Value.tuple ⟨[.bool (s,false,(1:Int)).2.1,.int .i64 (s,false,(1:Int)).2.2]⟩)=Ending.returned (Value.tuple ⟨[.bool false,.int .i64 1]⟩)∧H.le H'):=⟨H,rfl,Fh.le.refl _⟩
   cases ok with
   |false=>
    rw [hX,if_neg (fun h=>by cases h.1)]
    refine zA hs hw ?_;clear hs;intro a hs
    exact rt2 hs rfl rfl rfl ⟨H1,rfl,hle0,(iD hw hch).sub (List.Sublist.cons_cons _ (List.Sublist.cons_cons _ (List.Sublist.cons _ (List.Sublist.cons _ (List.Sublist.cons _ (List.Sublist.refl _))))))⟩
   |true=>
   refine zA hs hw ?_;clear hs;intro a hs
   cases he:(x.err !=r.err) with
   |true=>
    rw [he] at hs
    rw [hX,if_neg (fun h=>by rw [h.2] at he;simp at he)]
    refine zA hs hw ?_;clear hs;intro a hs
    exact rt2 hs rfl rfl rfl ⟨H1,rfl,hle0,(iD hw hch).sub (List.Sublist.cons_cons _ (List.Sublist.cons_cons _ (List.Sublist.cons _ (List.Sublist.cons _ (List.Sublist.cons _ (List.Sublist.refl _))))))⟩
   |false=>
   rw [he] at hs
   have hone:one s r=(⟨f1,s.l ++ [r]⟩,true,0):=by rw [hX,if_pos ⟨rfl,by simpa using he⟩]
   clear hX hend
   replace hr8:=hr8 rfl
   refine zB hs hw ?_;clear hs hw;intro a W hs hw
   have hw:Has 0 w0 _ (aA p [.pointer (some ⟨q,0,none⟩),.slice vad s.l.length vcap] 186::Fz H1::bK::Sx.Own 68 5 (.slice vad s.l.length vcap) s.l.length xs::aS H1 q f1::aA b7 (aJ x (.slice xad x.b.l.length xcap)) 68::aA b3 (aJ r (.slice sad r.b.l.length scap)) 68::aS H1 pf s.f::R):=hw.free.pm
   refine fL (σ:=Value×Fh×Nat×Option Addr) (V:=fun u=>[.pointer (some ⟨p,0,none⟩),.pointer (some ⟨p,0,none⟩),.pointer (some ⟨p,0,none⟩),.pointer (some ⟨p,0+1,none⟩),.slice vad s.l.length vcap,.agg ⟨aJ r (.slice sad r.b.l.length scap)⟩,.agg ⟨aJ r (u 6).1⟩,.slice (some ⟨(u 7).2.2.1,0,none⟩) 1 1,.slice (u 8).2.2.2 (s.l ++ [r]).length (u 8).2.2.1,.pointer (some ⟨p,0,none⟩),.pointer (some ⟨p,0+1,none⟩),.bool true])
    (Rs:=fun u D=>aA p [.pointer (some ⟨q,0,none⟩),(if D 11 then .slice (u 8).2.2.2 (s.l ++ [r]).length (u 8).2.2.1 else .slice vad s.l.length vcap)] 186::(if D 6 then FzF (u 6).2.1 (H1.le (u 6).2.1∧cH (u 6).2.1 (u 6).1 r.b.l) else Fz H1)::(if D 7 then aA (u 7).2.2.1 (aJ r (u 6).1) 68 else bK)::(if D 8 then Sx.Own 68 5 (.slice (u 8).2.2.2 (s.l ++ [r]).length (u 8).2.2.1) (s.l ++ [r]).length (xs ++ aJ r (u 6).1) else Sx.Own 68 5 (.slice vad s.l.length vcap) s.l.length xs)::aS H1 q f1::aA b7 (aJ x (.slice xad x.b.l.length xcap)) 68::aA b3 (aJ r (.slice sad r.b.l.length scap)) 68::aS H1 pf s.f::R) (fun _=>(.nilIface,H1,0,none)) hs hw (hVu:=?vu_6) (ho:=⟨?_,?_,?_,?_,?c4_6,?_,?c6_6,?c7_6,?c8_6,?_,?_,?c11_6,trivial⟩) (k:=?k_6)
   case vu_6=>
    intro u u' j h
    rcases j with _|_|_|_|_|_|_|_|_|_|_|j
    all_goals first|rfl|simp [h]
   case c4_6=>
    intro u LD D a W hcl hi hp hs hw
    have h8:=Go.Sx.not_done hcl hi 8 (by kernel_rfl)
    have h11:=Go.Sx.not_done hcl h8 11 (by kernel_rfl)
    have hw0:=hw
    simp only [h11,Bool.false_eq_true,if_false] at hw
    refine zA hs hw ?_;clear hs;intro a hs
    exact Or.inl ⟨hs,hw0⟩
   case c6_6=>
    intro u LD D a W hcl hi hp hs hw
    have h7:=Go.Sx.not_done hcl hi 7 (by kernel_rfl)
    have h8:=Go.Sx.not_done hcl h7 8 (by kernel_rfl)
    have h11:=Go.Sx.not_done hcl h8 11 (by kernel_rfl)
    simp only [hi,h7,h8,h11,Bool.false_eq_true,if_false] at hw
    repeat (first|(refine sxv hs hw ?_;clear hs;intro a hs)|refine sxc hs ?_|(refine sxa hs hw ?_;clear hs hw;intro a b W hw hs)|(refine sxs hs hw ?_;clear hs hw;intro W hs hw))
    have hw:Has 0 w0 W (Fz H1::aA p [.pointer (some ⟨q,0,none⟩),.slice vad s.l.length vcap] 186::bK::Sx.Own 68 5 (.slice vad s.l.length vcap) s.l.length xs::aS H1 q f1::aA b7 (aJ x (.slice xad x.b.l.length xcap)) 68::aA b3 (aJ r (.slice sad r.b.l.length scap)) 68::aS H1 pf s.f::R):=hw.pm
    refine aF hs (hc:=aA9 w0 _ H1 r _ _ hr8 hr hw) (k:=?_);rintro e0 W1 ⟨sv',H',rfl,h1,h2,hw1⟩;refine ⟨_,rfl,?_⟩;clear hs hw;intro a hs;have hw:=hw1;clear hw1
    refine zG hs ?_
    refine Or.inr ⟨(sv',H',0,none),hs,?_⟩
    have hw:=hw.fzf (q:=H1.le H'∧cH H' sv' r.b.l) ⟨h1,h2⟩
    show Has 0 w0 _ (aA p [_,(if (Nat.beq 11 6 || D 11)=true then _ else _)] _::_::(if (Nat.beq 7 6 || D 7)=true then _ else _)::(if (Nat.beq 8 6 || D 8)=true then _ else _)::_)
    rw [h7,h8,h11]
    exact hw.pm
   case c7_6=>
    intro u LD D a W hcl hi hp hs hw
    have h6:=Go.Sx.done hp 6 (by kernel_rfl)
    have h8:=Go.Sx.not_done hcl hi 8 (by kernel_rfl)
    have h11:=Go.Sx.not_done hcl h8 11 (by kernel_rfl)
    simp only [hi,h6,h8,h11,Bool.false_eq_true,if_false,if_true] at hw
    repeat (first|(refine sxv hs hw ?_;clear hs;intro a hs)|refine sxc hs ?_|(refine sxa hs hw ?_;clear hs hw;intro a b W hw hs)|(refine sxs hs hw ?_;clear hs hw;intro W hs hw))
    refine Or.inr ⟨(.nilIface,H1,_,none),hs,?_⟩
    show Has 0 w0 _ (aA p [_,(if (Nat.beq 11 7 || D 11)=true then _ else _)] _::(if (Nat.beq 6 7 || D 6)=true then _ else _)::_::(if (Nat.beq 8 7 || D 8)=true then _ else _)::_)
    rw [h6,h8,h11]
    exact hw.fill (Upd.tl (Upd.tl Upd.hd))
   case c8_6=>
    intro u LD D a W hcl hi hp hs hw
    have h7:=Go.Sx.done hp 7 (by kernel_rfl)
    have h6:=Go.Sx.done (hcl 7 _ rfl h7) 6 (by kernel_rfl)
    have h11:=Go.Sx.not_done hcl hi 11 (by kernel_rfl)
    simp only [hi,h6,h7,h11,Bool.false_eq_true,if_false,if_true] at hw
    have hw:Has 0 w0 W (FzF (u 6).2.1 (H1.le (u 6).2.1∧cH (u 6).2.1 (u 6).1 r.b.l)::Sx.Own 68 5 (.slice vad s.l.length vcap) s.l.length xs::aA p [.pointer (some ⟨q,0,none⟩),.slice vad s.l.length vcap] 186::aA (u 7).2.2.1 (aJ r (u 6).1) 68::aS H1 q f1::aA b7 (aJ x (.slice xad x.b.l.length xcap)) 68::aA b3 (aJ r (.slice sad r.b.l.length scap)) 68::aS H1 pf s.f::R):=hw.pm
    obtain ⟨⟨hle,hv⟩,_⟩:=hw.unfzf
    have hw:Has 0 w0 W (Sx.Own 68 5 (.slice vad s.l.length vcap) s.l.length xs::FzF (u 6).2.1 (H1.le (u 6).2.1∧cH (u 6).2.1 (u 6).1 r.b.l)::aA p [.pointer (some ⟨q,0,none⟩),.slice vad s.l.length vcap] 186::aA (u 7).2.2.1 (aJ r (u 6).1) 68::aS H1 q f1::aA b7 (aJ x (.slice xad x.b.l.length xcap)) 68::aA b3 (aJ r (.slice sad r.b.l.length scap)) 68::aS H1 pf s.f::R):=hw.swap2
    have hone:=RowIn.ones (H:=(u 6).2.1) r (aJ r (u 6).1) ⟨_,rfl,hv⟩
    refine jB hs (hw:=hw) (hi:=In.tl (In.tl In.hd)) (ch:=hch.mono (RowIn.le hle)) (ha:=(⟨_,rfl,hv⟩:RowIn (u 6).2.1 r (aJ r (u 6).1))) (hl:=rfl) (h1:=by rw [List.all_eq_true];exact hone) (hb:=by omega) (h63:=by omega) (k:=?_)
    clear hs hw;intro a ad cap W hs hw hc2
    refine zG hs ?_
    refine Or.inr ⟨(.nilIface,H1,cap,ad),hs,?_⟩
    show Has 0 w0 _ (aA p [_,(if (Nat.beq 11 8 || D 11)=true then _ else _)] _::(if (Nat.beq 6 8 || D 6)=true then _ else _)::(if (Nat.beq 7 8 || D 7)=true then _ else _)::_::_)
    rw [h6,h7,h11]
    exact hw.pm
   case c11_6=>
    intro u LD D a W hcl hi hp hs hw
    have h8:=Go.Sx.done hp 8 (by kernel_rfl)
    simp only [hi,h8,Bool.false_eq_true,if_false,if_true] at hw
    repeat (first|(refine sxv hs hw ?_;clear hs;intro a hs)|refine sxc hs ?_|(refine sxa hs hw ?_;clear hs hw;intro a b W hw hs)|(refine sxs hs hw ?_;clear hs hw;intro W hs hw))
    refine Or.inl ⟨hs,?_⟩
    show Has 0 w0 _ (_::_::_::(if (Nat.beq 8 11 || D 8)=true then _ else _)::_)
    rw [h8]
    exact hw
   case k_6=>
    clear hs hw
    intro u a W hs hw
    replace hw:Has 0 w0 W (aA p [.pointer (some ⟨q,0,none⟩),.slice (u 8).2.2.2 (s.l ++ [r]).length (u 8).2.2.1] 186::FzF (u 6).2.1 (H1.le (u 6).2.1∧cH (u 6).2.1 (u 6).1 r.b.l)::aA (u 7).2.2.1 (aJ r (u 6).1) 68::Sx.Own 68 5 (.slice (u 8).2.2.2 (s.l ++ [r]).length (u 8).2.2.1) (s.l ++ [r]).length (xs ++ aJ r (u 6).1)::aS H1 q f1::aA b7 (aJ x (.slice xad x.b.l.length xcap)) 68::aA b3 (aJ r (.slice sad r.b.l.length scap)) 68::aS H1 pf s.f::R):=hw
    replace hs:Slots a 74 [(0,.pointer (some ⟨p,0,none⟩))]:=hs.of ⟨rfl,trivial⟩
    generalize (u 8).2.2.2=ad at *
    generalize (u 8).2.2.1=cap at *
    generalize (u 7).2.2.1=bx at *
    generalize (u 6).2.1=H2 at *
    generalize (u 6).1=v2 at *
    clear u
    have hw:Has 0 w0 W (FzF H2 (H1.le H2∧cH H2 v2 r.b.l)::aA p [.pointer (some ⟨q,0,none⟩),.slice ad (s.l ++ [r]).length cap] 186::aS H1 q f1::Sx.Own 68 5 (.slice ad (s.l ++ [r]).length cap) (s.l ++ [r]).length (xs ++ aJ r v2)::aA bx (aJ r v2) 68::aA b7 (aJ x (.slice xad x.b.l.length xcap)) 68::aA b3 (aJ r (.slice sad r.b.l.length scap)) 68::aS H1 pf s.f::R):=hw.pm
    obtain ⟨⟨hle,hv⟩,hw⟩:=hw.unfzf
    have hw:Has 0 w0 W (aS H1 q f1::aA p [.pointer (some ⟨q,0,none⟩),.slice ad (s.l ++ [r]).length cap] 186::Sx.Own 68 5 (.slice ad (s.l ++ [r]).length cap) (s.l ++ [r]).length (xs ++ aJ r v2)::Fz H2::R):=(hw.perm (B:=aS H1 q f1::aA p [.pointer (some ⟨q,0,none⟩),.slice ad (s.l ++ [r]).length cap] 186::Sx.Own 68 5 (.slice ad (s.l ++ [r]).length cap) (s.l ++ [r]).length (xs ++ aJ r v2)::Fz H2::aA bx (aJ r v2) 68::aA b7 (aJ x (.slice xad x.b.l.length xcap)) 68::aA b3 (aJ r (.slice sad r.b.l.length scap)) 68::aS H1 pf s.f::R) (by repeat (first|exact List.Perm.refl _|refine nB (by repeat (first|exact Pick.hd|apply Pick.tl)) ?_))).sub (List.Sublist.cons_cons _ (List.Sublist.cons_cons _ (List.Sublist.cons_cons _ (List.Sublist.cons_cons _ (List.Sublist.cons _ (List.Sublist.cons _ (List.Sublist.cons _ (List.Sublist.cons _ (List.Sublist.refl _)))))))))
    have hw:=(jX hw hle).swap2
    have hw:=iD (s:=⟨f1,s.l ++ [r]⟩) hw ((hch.mono (RowIn.le hle)).app (Ch.unit ⟨_,rfl,hv⟩))
    refine zA hs hw ?_;clear hs;intro a hs
    rw [hone]
    refine rt2 hs rfl rfl rfl ?_
    exact ⟨H2,rfl,hle0.trans hle,hw⟩
   all_goals
    intro u LD D a W hcl hi hp hs hw
    refine zA hs hw ?_;clear hs;intro a hs
    exact Or.inl ⟨hs,hw⟩
  all_goals
   intro LD D a W hcl hi hp hs hw
   refine zA hs hw ?_;clear hs;intro a hs
   exact ⟨hs,hw⟩
 all_goals
  intro LD D a W hcl hi hp hs hw
  refine zA hs hw ?_;clear hs;intro a hs
  exact ⟨hs,hw⟩
def i0 (H:Fh) (v:Value) (rows:List cD):Prop:=∃xs,RdH H 5 v rows.length xs∧Ch (RowIn H) rows xs
structure jH (r:cD):Prop where
 place:i64 r.place
 err:i64 r.err
 b:gW r.b
def gC (s:eK) (n:Nat):List cD→eK×Nat×Int
 | []=>(s,n,0)
 |r::rs=>if (one s r).2.2=0 then gC (one s r).1 (if (one s r).2.1=true then n+1 else n) rs else ((one s r).1,n,(one s r).2.2)
theorem aF2 (s:eK) (r:cD):(one s r).1.l.length≤s.l.length+1:=by
 unfold one
 repeat (first|split|simp)
theorem aF3 (w0 W : World) (H : Fh) (p : Nat) (s : eK) (rows : List cD) (v : Value) (R : List Res) (hl : s.l.length + rows.length ≤ 1000000) (hb : ∀ r ∈ rows, jH r) (hr : i0 H v rows) (hH : (fr w0).le H) (hT : Tabs w0) (hw : Has 0 w0 W (aT H p s :: Fz H :: R)) :
    Calls Tryz.prog 252 ⟨[.pointer (some ⟨p, 0, none⟩), v]⟩ W fun e W' => ∃ H', e = .returned (.tuple ⟨[.int .i64 ((gC s 0 rows).2.1 : Nat), .int .i64 (gC s 0 rows).2.2]⟩) ∧ H.le H' ∧ Has 0 w0 W' (aT H' p (gC s 0 rows).1 :: Fz H' :: R) := by
  obtain ⟨xs, hr, hch⟩ := hr
  obtain ⟨sad, scap, rfl⟩ := hr.slice
  refine enter Tryz.func252 Tryz.ntmps252 rfl rfl fun a hs => ?_
  refine zC hs hw ?_; clear hs; intro a hs
  refine bX (σ := Nat × Nat × eK × Fh) (fun t => [(0, .pointer (some ⟨p, 0, none⟩)), (13, .slice sad rows.length scap), (14, .int .i64 (rows.length : Int)), (15, .int .i64 (t.1 : Int)), (6, .int .i64 (t.2.1 : Int))]) (fun t => aT t.2.2.2 p t.2.2.1 :: Fz t.2.2.2 :: R) (fun t => t.1 ≤ rows.length ∧ t.2.1 ≤ t.1 ∧ t.2.2.1.l.length ≤ s.l.length + t.1 ∧ H.le t.2.2.2 ∧ gC t.2.2.1 t.2.1 (rows.drop t.1) = gC s 0 rows) (fun t => rows.length - t.1) (0, 0, s, H) ⟨Nat.zero_le _, Nat.zero_le _, Nat.le_refl _, Fh.le.refl _, rfl⟩ hs ⟨rfl, rfl, rfl, rfl, rfl, trivial⟩ hw ?_
  clear hs hw
  rintro ⟨j, n, s', H'⟩ a W ⟨hj, hn, hsl, hH', hgo⟩ hs hw
  simp only at hj hn hsl hH' hgo hs hw
  refine zA hs hw ?_; clear hs; intro a hs
  refine cI hs (kt := fun hcc => ?_) (kf := fun hcc => ?_)
  · have hj' : j < rows.length := by simpa using hcc
    obtain ⟨r, hri⟩ : ∃ o, rows[j]? = some o := ⟨rows[j], List.getElem?_eq_getElem hj'⟩
    have hok := hb r (List.mem_of_getElem? hri)
    rw [aEK hri] at hgo
    simp only [gC] at hgo
    refine zG hs ?_
    refine fZ hs (r := hw.rdH (by repeat (first | exact In.hd | apply In.tl)) (hr.le hH')) (hk := RowIn.len) (ch := hch.mono (RowIn.le hH')) (ho := hri) (hlen := rfl) (c := ?_); clear hs; intro a g off c hc hcl hpc hlt hs
    obtain ⟨rv, rfl, hrv⟩ := hc
    obtain ⟨rad, rcap, rfl⟩ := hrv.slice
    refine eC hs (cs := aJ r (.slice rad r.b.l.length rcap)) (hc := hpc) (hl := by rfl) (c := ?_); clear hs; intro a hs
    clear hpc
    repeat (first | (refine sxv hs hw ?_; clear hs; intro a hs) | refine sxc hs ?_ | (refine sxa hs hw ?_; clear hs hw; intro a b W hw hs) | (refine sxs hs hw ?_; clear hs hw; intro W hs hw))
    obtain ⟨b8, q8⟩ := nm1 hw; subst q8
    have hw : Has 0 w0 _ (aT H' p s' :: Fz H' :: aA b8 (aJ r (.slice rad r.b.l.length rcap)) 68 :: R) := hw.pm
    refine aF hs (hc := aF1 w0 _ H' p s' r _ _ (by omega) hok.place hok.b hrv (hH.trans hH') hT hw) (k := ?_); rintro e0 W1 ⟨H2, rfl, hle, hw1⟩; refine ⟨_, rfl, ?_⟩; clear hs hw; intro a hs; have hw := hw1; clear hw1
    have hol := aF2 s' r
    refine zA hs hw ?_; clear hs; intro a hs
    cases he : ((one s' r).2.2 != 0) with
    | true =>
      rw [he] at hs
      rw [if_neg (by simpa using he)] at hgo
      refine zA hs hw ?_; clear hs; intro a hs
      rw [← hgo]
      exact rt2 hs rfl rfl rfl ⟨H2, rfl, hH'.trans hle, hw.sub (List.Sublist.cons_cons _ (List.Sublist.cons_cons _ (List.Sublist.cons _ (List.Sublist.refl _))))⟩
    | false =>
    rw [he] at hs
    rw [if_pos (by simpa using he)] at hgo
    refine zA hs hw ?_; clear hs; intro a hs
    have hw := hw.sub (L' := aT H2 p (one s' r).1 :: Fz H2 :: R) (List.Sublist.cons_cons _ (List.Sublist.cons_cons _ (List.Sublist.cons _ (List.Sublist.refl _))))
    cases hf : (one s' r).2.1 with
    | true =>
      rw [hf] at hs
      rw [hf, if_pos rfl] at hgo
      refine zA hs hw ?_; clear hs; intro a hs
      exact bR (j + 1, n + 1, (one s' r).1, H2) hs hw ⟨hj', by show n + 1 ≤ j + 1; omega, by show (one s' r).1.l.length ≤ s.l.length + (j + 1); omega, hH'.trans hle, hgo⟩ (by show rows.length - (j + 1) < rows.length - j; omega) ⟨rfl, rfl, rfl, bS (by show IntKind.i64.wrap ((j : Int) + 1) = ((j + 1 : Nat) : Int); rw [IntWalk.i64_in _ (by omega)]; omega), bS (by show IntKind.i64.wrap ((n : Int) + 1) = ((n + 1 : Nat) : Int); rw [IntWalk.i64_in _ (by omega)]; omega), trivial⟩
    | false =>
      rw [hf] at hs
      rw [hf, if_neg (by decide)] at hgo
      refine zA hs hw ?_; clear hs; intro a hs
      exact bR (j + 1, n, (one s' r).1, H2) hs hw ⟨hj', by show n ≤ j + 1; omega, by show (one s' r).1.l.length ≤ s.l.length + (j + 1); omega, hH'.trans hle, hgo⟩ (by show rows.length - (j + 1) < rows.length - j; omega) ⟨rfl, rfl, rfl, bS (by show IntKind.i64.wrap ((j : Int) + 1) = ((j + 1 : Nat) : Int); rw [IntWalk.i64_in _ (by omega)]; omega), rfl, trivial⟩
  · have hj' : j = rows.length := by have : ¬ j < rows.length := by simpa using hcc
                                     omega
    subst hj'
    rw [List.drop_length] at hgo
    refine zA hs hw ?_; clear hs; intro a hs
    rw [← hgo]
    exact rt2 hs rfl rfl rfl ⟨H', rfl, hH', hw⟩
theorem aAe (w0 W:World) (H:Fh) (p:Nat) (s:eK) (R:List Res) (hl:s.l.length≤1000000) (h8:∀r∈s.l,r.b.l.length≤1000) (hw:Has 0 w0 W (aT H p s::Fz H::R)):
  Calls Tryz.prog 59 ⟨[.pointer (some ⟨p,0,none⟩)]⟩ W fun e W'=>∃ad cap xs' H',e= .returned (.slice ad s.l.length cap)∧H.le H'∧Ch (RowIn H') s.l xs'∧Has 0 w0 W' (Sx.Own 68 5 (.slice ad s.l.length cap) s.l.length xs'::aT H' p s::Fz H'::R):=by
 obtain ⟨pf,vad,vcap,xs,hch,hw⟩:=lM hw
 refine enter Tryz.func59 Tryz.ntmps59 rfl rfl fun a hs=>?_
 refine zC hs hw ?_;clear hs;intro a hs
 have hw:=hw.nilOwn 68 5
 refine bX (σ:=Nat×Option Addr×Nat×List Value×Fh) (fun t=>[(11,.slice vad s.l.length vcap),(12,.int .i64 (s.l.length:Int)),(13,.int .i64 (t.1:Int)),(3,.slice t.2.1 (s.l.take t.1).length t.2.2.1)]) (fun t=>Sx.Own 68 5 (.slice t.2.1 (s.l.take t.1).length t.2.2.1) (s.l.take t.1).length t.2.2.2.1::Fz t.2.2.2.2::Sx.Own 68 5 (.slice vad s.l.length vcap) s.l.length xs::aA p [.pointer (some ⟨pf,0,none⟩),.slice vad s.l.length vcap] 186::aS H pf s.f::R) (fun t=>t.1≤s.l.length∧H.le t.2.2.2.2∧Ch (RowIn t.2.2.2.2) (s.l.take t.1) t.2.2.2.1) (fun t=>s.l.length - t.1) (0,none,0,[],H) ⟨Nat.zero_le _,Fh.le.refl _,rfl⟩ hs ⟨rfl,rfl,rfl,rfl,trivial⟩ (hw.pm) ?_
 clear hs hw
 rintro ⟨j,oad,ocap,ys,H'⟩ a W ⟨hj,hH',hch2⟩ hs hw
 simp only at hj hH' hch2 hs hw
 refine zA hs hw ?_;clear hs;intro a hs
 refine cI hs (kt:=fun hcc=>?_) (kf:=fun hcc=>?_)
 ·have hj':j<s.l.length:=by simpa using hcc
  obtain ⟨r,hri⟩:∃o,s.l[j]? =some o:=⟨s.l[j],List.getElem?_eq_getElem hj'⟩
  have hok:=h8 r (List.mem_of_getElem? hri)
  have htk:(s.l.take j).length≤1000000:=by rw [List.length_take];omega
  refine zG hs ?_
  refine fZ hs (r:=hw.rd_own (In.tl (In.tl In.hd))) (hk:=RowIn.len) (ch:=hch) (ho:=hri) (hlen:=rfl) (c:=?_);clear hs;intro a g off c hc hcl hpc hlt hs
  obtain ⟨rv,rfl,hrv⟩:=hc
  obtain ⟨rad,rcap,rfl⟩:=hrv.slice
  refine eC hs (cs:=aJ r (.slice rad r.b.l.length rcap)) (hc:=hpc) (hl:=by rfl) (c:=?_);clear hs;intro a hs
  clear hpc
  repeat (first|(refine sxv hs hw ?_;clear hs;intro a hs)|refine sxc hs ?_|(refine sxa hs hw ?_;clear hs hw;intro a b W hw hs)|(refine sxs hs hw ?_;clear hs hw;intro W hs hw))
  obtain ⟨b5,q5⟩:=nm1 hw;subst q5
  have hw:Has 0 w0 _ (Fz H'::Sx.Own 68 5 (.slice oad (s.l.take j).length ocap) (s.l.take j).length ys::Sx.Own 68 5 (.slice vad s.l.length vcap) s.l.length xs::aA p [.pointer (some ⟨pf,0,none⟩),.slice vad s.l.length vcap] 186::aS H pf s.f::aA b5 (aJ r (.slice rad r.b.l.length rcap)) 68::R):=hw.pm
  refine aF hs (hc:=aA9 w0 _ H' r _ _ hok (hrv.le hH') hw) (k:=?_);rintro e0 W1 ⟨nv,H2,rfl,hle,hnv,hw1⟩;refine ⟨_,rfl,?_⟩;clear hs hw;intro a hs;have hw:=hw1;clear hw1
  obtain ⟨nad,ncap,rfl⟩:=hnv.slice
  repeat (first|(refine sxv hs hw ?_;clear hs;intro a hs)|refine sxc hs ?_|(refine sxa hs hw ?_;clear hs hw;intro a b W hw hs)|(refine sxs hs hw ?_;clear hs hw;intro W hs hw))
  obtain ⟨bx,qx⟩:=nm1 hw;subst qx
  have hw:Has 0 w0 _ (Sx.Own 68 5 (.slice oad (s.l.take j).length ocap) (s.l.take j).length ys::aA bx (aJ r (.slice nad r.b.l.length ncap)) 68::Fz H2::Sx.Own 68 5 (.slice vad s.l.length vcap) s.l.length xs::aA p [.pointer (some ⟨pf,0,none⟩),.slice vad s.l.length vcap] 186::aS H pf s.f::aA b5 (aJ r (.slice rad r.b.l.length rcap)) 68::R):=hw.pm
  refine jB hs (hw:=hw) (hi:=In.hd) (ch:=hch2.mono (RowIn.le hle)) (ha:=(⟨_,rfl,hnv⟩:RowIn H2 r (aJ r (.slice nad r.b.l.length ncap)))) (hl:=rfl) (h1:=rfl) (hb:=by omega) (h63:=by omega) (k:=?_)
  clear hs hw;intro a ad2 cap2 W hs hw hc2
  rw [←fS hri] at hs hw hc2
  refine zA hs hw ?_;clear hs;intro a hs
  have hw:=hw.sub (L':=Sx.Own 68 5 (.slice ad2 (s.l.take (j+1)).length cap2) (s.l.take (j+1)).length (ys ++ aJ r (.slice nad r.b.l.length ncap))::Fz H2::Sx.Own 68 5 (.slice vad s.l.length vcap) s.l.length xs::aA p [.pointer (some ⟨pf,0,none⟩),.slice vad s.l.length vcap] 186::aS H pf s.f::R) (List.Sublist.cons_cons _ (List.Sublist.cons _ (List.Sublist.cons_cons _ (List.Sublist.cons_cons _ (List.Sublist.cons_cons _ (List.Sublist.cons_cons _ (List.Sublist.cons _ (List.Sublist.refl _))))))))
  exact bR (j+1,ad2,cap2,ys ++ aJ r (.slice nad r.b.l.length ncap),H2) hs hw ⟨hj',hH'.trans hle,hc2⟩ (by show s.l.length - (j+1)<s.l.length - j;omega) ⟨rfl,rfl,bS (by show IntKind.i64.wrap ((j:Int)+1)=((j+1:Nat):Int);rw [IntWalk.i64_in _ (by omega)];omega),rfl,trivial⟩
 ·have hj':j=s.l.length:=by
   have:¬j<s.l.length:=by simpa using hcc
   omega
  subst hj'
  rw [List.take_length] at hs hw hch2
  refine zA hs hw ?_;clear hs;intro a hs
  have hw:Has 0 w0 W (aS H pf s.f::aA p [.pointer (some ⟨pf,0,none⟩),.slice vad s.l.length vcap] 186::Sx.Own 68 5 (.slice vad s.l.length vcap) s.l.length xs::Sx.Own 68 5 (.slice oad s.l.length ocap) s.l.length ys::Fz H'::R):=hw.pm
  have hw:=iD (jX hw hH').swap2 (hch.mono (RowIn.le hH'))
  exact rt1 hs rfl rfl ⟨_,_,ys,H',rfl,hH',hch2,hw.swap2⟩
end Go.Proofs.YtgpbngfehfbndaaGreatDoor.Sw
namespace Go.Sx
open Go.RowKit
section
variable {P:Program} {Q:Exit→Act→World→Prop} {C:Ending→World→Prop} {a:Act} {n G:Nat} {L:List (Nat×Value)} {w W:World} {R:List Res} {t t':Tmp} {T T' E E':TypeId} {b o b' o':Nat} {cs cs' z z':List Value} {fn:Func}
end
end Go.Sx
namespace Go.Proofs.YtgpbngfehfbndaaGreatDoor.Sw
open Go.RowKit Go.Sx
end Go.Proofs.YtgpbngfehfbndaaGreatDoor.Sw
namespace Go.Sx
end Go.Sx
namespace Go.Proofs.YtgpbngfehfbndaaGreatDoor.Sw
open Go.RowKit Go.Sx
end Go.Proofs.YtgpbngfehfbndaaGreatDoor.Sw
namespace Go.Sx
end Go.Sx
namespace Go.Proofs.YtgpbngfehfbndaaGreatDoor.Sw
open Go.RowKit Go.Sx
def wC (H:Fh) (v:Value) (l:List cR):Prop:=∃xs,RdH H 3 v l.length xs∧Ch (BatIn H) l xs
def wD:dV→List cD→dV→Prop
 |f,[],f'=>f=f'
 |f,r::rs,f'=>(next f r.b).2.2=true∧(next f r.b).2.1=r∧wD (next f r.b).1 rs f'
theorem r6 {f:dV} {b:cR} (h:(next f b).2.2=true):iZ f b=true∧next f b=(nH f b,dO f b,true):=by
 unfold next at *
 cases hb:iZ f b with
 |true=>exact ⟨rfl,rfl⟩
 |false=>rw [hb] at h;cases h
theorem aAf {f:dV} {b:cR} (h:(next f b).2.2=true):(next f b).2.1.b=b:=by rw [(r6 h).2];rfl
end Go.Proofs.YtgpbngfehfbndaaGreatDoor.Sw
namespace Go.Proofs.YtgpbngfehfbndaaGreatDoor
open Go.RowKit
theorem aAg:(Tryz.prog.info? 5).map (fun i=>(i.zero,i.size,i.bytes))=some (some (.int .u8 0),1,1):=by kernel_rfl
theorem aF4 {a a' b b' c c':Int} (h1:a=a') (h2:b=b') (h3:c=c'):Ending.returned (.tuple #[.int .i64 a,.int .i64 b,.int .i64 c])= .returned (.tuple #[.int .i64 a',.int .i64 b',.int .i64 c']):=by rw [h1,h2,h3]
def OwnB (w:World) (B:Nat) (v:Value) (l:List UInt8):Prop:=w.ownsRow B 5 1 v l.length (Lib.byteCells l)
theorem u8w (x:Nat) (h:x<128):IntKind.u8.wrap (x:Int)=((x.toUInt8).toNat:Int):=by
 rw [IntKind.wrap_u8,Ph.u8n x (by omega)];omega
theorem u8p (x:Nat) (h:x<128):(x:Int)=((x.toUInt8).toNat:Int):=by rw [Ph.u8n x (by omega)]
theorem u8o (x:Nat):bits .or .u8 (IntKind.u8.wrap (x:Int)) 128=(((x % 128+128).toUInt8).toNat:Int):=by
 have e:IntKind.u8.wrap (x:Int)=((x % 256:Nat):Int):=by rw [IntKind.wrap_u8];omega
 rw [e,Ph.or128_at _ (by omega),Ph.u8n _ (by omega)];omega
set_option maxRecDepth 100000 in
theorem aF5 (B:Nat) (v:Value) (l:List UInt8) (n:Int) (w:World) (h0: -9223372036854775808≤n) (h1:n≤9223372036854775807) (hn:0≤n) (ho:OwnB w B v l) (hl:l.length≤1000000000) (hB:B≤w.heap.size):
  Calls Tryz.prog 115 #[v,.int .i64 n] w fun e w'=>∃v',e= .returned v'∧OwnB w' B v' (l ++ Ph.putI n)∧Below B w w'∧B≤w'.heap.size:=by
 obtain ⟨ib,hib,hbz,hbs,hbb⟩:=info_parts aAg
 have HO:Hid (w.ownsRow B 5 1 v l.length (Lib.byteCells l)):=ho
 have HZ:=Lib.hid (Ph.zig_small h0 h1).1
 clear ho
 go_enter Tryz.func115,Tryz.ntmps115
 go_wp2
 go_loopw [0,5] (fun b u wr=>∃(acc:List UInt8) (f x:Nat),u= .int .u64 x∧Hid (x<128 ^ f)∧1≤f∧f≤10∧acc.length+f≤l.length+10∧Hid (wr.ownsRow B 5 1 b acc.length (Lib.byteCells acc))∧Below B w wr∧B≤wr.heap.size∧Hid (acc ++ Ph.putN f x=l ++ Ph.putI n)) (fun _ u _=>(intOf u).toNat)
 case atStart=>exact ⟨l,10,Ph.zig n,by rw [Ph.zig_pos n hn],HZ.out,by omega,by omega,by omega,HO.out,Below.refl _ _,hB,rfl⟩
 case round=>
  obtain ⟨acc,f,x,rfl,HX,hf1,hf2,hal,HR,hbw,hBw,HE⟩:=hrel
  have hr:=HR.out
  by_cases hx:x<128
  ·have hx':(x:Int)≤127:=by omega
   go_wp2_with (at_builtin;refine wpList_append_own _ rfl (.tmp 23) (.tmp 26) 146 rfl (B) 5 ib (.int .u8 0) 1 1 Tryz.underlying146 hib hbz hbs hbb rfl (by decide) _ acc.length _ rfl (hr.alloc _) ⟨wr.heap.size,0,none⟩ 1 1 [?xv] rfl rfl ?c1 ?c2 ?c3 ?c4 ?c5 ?_)
   case c1=>exact (cell_one_new _ _ _)
   case c2=>simp [Value.oneCell']
   case c3=>unfold maxLen;omega
   case c4=>omega
   case c5=>simp;omega
   intro b1 w1 hr1 hg1 _
   have hb1:Below (B) w w1:=(hbw.alloc hBw _).grown hg1 (by simp;omega) (fun g hg=>(hr.lt g hg).1)
   have hB1:B≤w1.heap.size:=by have:=hg1.size;simp at this;omega
   have hr2:=rS (c:=x.toUInt8) hr1 (u8p x hx)
   have HF:Hid (acc ++ [x.toUInt8]=l ++ Ph.putI n):=by
    show _=_
    rw [←HE.out]
    obtain ⟨g,rfl⟩:∃g,f=g+1:=⟨f - 1,by omega⟩
    rw [Ph.putN_last g x hx]
   clear hr hr1
   go_wp2
   go_ret
   refine ⟨_,rfl,?_,hb1,hB1⟩
   unfold OwnB
   rw [←HF.out]
   exact hr2
  ·have hx':(127:Int)<(x:Int):=by omega
   obtain ⟨g,hfg,hg1',hxg,hpn⟩:=Ph.putN_split f x hx HX.out
   have HPN:=Lib.hid hpn
   have HXG:=Lib.hid hxg
   clear hpn hxg
   go_wp2_with (at_builtin;refine wpList_append_own _ rfl (.tmp 15) (.tmp 19) 146 rfl (B) 5 ib (.int .u8 0) 1 1 Tryz.underlying146 hib hbz hbs hbb rfl (by decide) _ acc.length _ rfl (hr.alloc _) ⟨wr.heap.size,0,none⟩ 1 1 [?yv] rfl rfl ?d1 ?d2 ?d3 ?d4 ?d5 ?_)
   case d1=>exact (cell_one_new _ _ _)
   case d2=>simp [Value.oneCell']
   case d3=>unfold maxLen;omega
   case d4=>omega
   case d5=>simp;omega
   intro b1 w1 hr1 hg1 _
   have hb1:Below (B) w w1:=(hbw.alloc hBw _).grown hg1 (by simp;omega) (fun g hg=>(hr.lt g hg).1)
   have hB1:B≤w1.heap.size:=by have:=hg1.size;simp at this;omega
   have hr2:=rS (c:=(x % 128+128).toUInt8) hr1 (u8o x)
   have HF:Hid (acc ++ [(x % 128+128).toUInt8] ++ Ph.putN g (x / 128)=l ++ Ph.putI n):=by
    show _=_
    rw [←HE.out,HPN.out]
    simp
   have HR2:=Lib.hid hr2
   clear hr hr1 hr2
   go_wp2
   go_roundw
   case rel=>exact ⟨acc ++ [(x % 128+128).toUInt8],g,x / 128,by go_num,HXG.out,hg1',by omega,by simp;omega,HR2.out,hb1,hB1,HF.out⟩
   case measure=>simp [intOf];omega
set_option maxRecDepth 100000 in
theorem aF6 (B:Nat) (v:Value) (l:List UInt8) (n:Int) (w:World) (h0: -9223372036854775808≤n) (h1:n≤9223372036854775807) (hn:n<0) (ho:OwnB w B v l) (hl:l.length≤1000000000) (hB:B≤w.heap.size):
  Calls Tryz.prog 115 #[v,.int .i64 n] w fun e w'=>∃v',e= .returned v'∧OwnB w' B v' (l ++ Ph.putI n)∧Below B w w'∧B≤w'.heap.size:=by
 obtain ⟨ib,hib,hbz,hbs,hbb⟩:=info_parts aAg
 have HO:Hid (w.ownsRow B 5 1 v l.length (Lib.byteCells l)):=ho
 have HZ:=Lib.hid (Ph.zig_small h0 h1).1
 clear ho
 go_enter Tryz.func115,Tryz.ntmps115
 go_wp2
 go_loopw [0,5] (fun b u wr=>∃(acc:List UInt8) (f x:Nat),u= .int .u64 x∧Hid (x<128 ^ f)∧1≤f∧f≤10∧acc.length+f≤l.length+10∧Hid (wr.ownsRow B 5 1 b acc.length (Lib.byteCells acc))∧Below B w wr∧B≤wr.heap.size∧Hid (acc ++ Ph.putN f x=l ++ Ph.putI n)) (fun _ u _=>(intOf u).toNat)
 case atStart=>exact ⟨l,10,Ph.zig n,by rw [Ph.zig_neg n h0 hn],HZ.out,by omega,by omega,by omega,HO.out,Below.refl _ _,hB,rfl⟩
 case round=>
  obtain ⟨acc,f,x,rfl,HX,hf1,hf2,hal,HR,hbw,hBw,HE⟩:=hrel
  have hr:=HR.out
  by_cases hx:x<128
  ·have hx':(x:Int)≤127:=by omega
   go_wp2_with (at_builtin;refine wpList_append_own _ rfl (.tmp 23) (.tmp 26) 146 rfl (B) 5 ib (.int .u8 0) 1 1 Tryz.underlying146 hib hbz hbs hbb rfl (by decide) _ acc.length _ rfl (hr.alloc _) ⟨wr.heap.size,0,none⟩ 1 1 [?xv] rfl rfl ?c1 ?c2 ?c3 ?c4 ?c5 ?_)
   case c1=>exact (cell_one_new _ _ _)
   case c2=>simp [Value.oneCell']
   case c3=>unfold maxLen;omega
   case c4=>omega
   case c5=>simp;omega
   intro b1 w1 hr1 hg1 _
   have hb1:Below (B) w w1:=(hbw.alloc hBw _).grown hg1 (by simp;omega) (fun g hg=>(hr.lt g hg).1)
   have hB1:B≤w1.heap.size:=by have:=hg1.size;simp at this;omega
   have hr2:=rS (c:=x.toUInt8) hr1 (u8p x hx)
   have HF:Hid (acc ++ [x.toUInt8]=l ++ Ph.putI n):=by
    show _=_
    rw [←HE.out]
    obtain ⟨g,rfl⟩:∃g,f=g+1:=⟨f - 1,by omega⟩
    rw [Ph.putN_last g x hx]
   clear hr hr1
   go_wp2
   go_ret
   refine ⟨_,rfl,?_,hb1,hB1⟩
   unfold OwnB
   rw [←HF.out]
   exact hr2
  ·have hx':(127:Int)<(x:Int):=by omega
   obtain ⟨g,hfg,hg1',hxg,hpn⟩:=Ph.putN_split f x hx HX.out
   have HPN:=Lib.hid hpn
   have HXG:=Lib.hid hxg
   clear hpn hxg
   go_wp2_with (at_builtin;refine wpList_append_own _ rfl (.tmp 15) (.tmp 19) 146 rfl (B) 5 ib (.int .u8 0) 1 1 Tryz.underlying146 hib hbz hbs hbb rfl (by decide) _ acc.length _ rfl (hr.alloc _) ⟨wr.heap.size,0,none⟩ 1 1 [?yv] rfl rfl ?d1 ?d2 ?d3 ?d4 ?d5 ?_)
   case d1=>exact (cell_one_new _ _ _)
   case d2=>simp [Value.oneCell']
   case d3=>unfold maxLen;omega
   case d4=>omega
   case d5=>simp;omega
   intro b1 w1 hr1 hg1 _
   have hb1:Below (B) w w1:=(hbw.alloc hBw _).grown hg1 (by simp;omega) (fun g hg=>(hr.lt g hg).1)
   have hB1:B≤w1.heap.size:=by have:=hg1.size;simp at this;omega
   have hr2:=rS (c:=(x % 128+128).toUInt8) hr1 (u8o x)
   have HF:Hid (acc ++ [(x % 128+128).toUInt8] ++ Ph.putN g (x / 128)=l ++ Ph.putI n):=by
    show _=_
    rw [←HE.out,HPN.out]
    simp
   have HR2:=Lib.hid hr2
   clear hr hr1 hr2
   go_wp2
   go_roundw
   case rel=>exact ⟨acc ++ [(x % 128+128).toUInt8],g,x / 128,by go_num,HXG.out,hg1',by omega,by simp;omega,HR2.out,hb1,hB1,HF.out⟩
   case measure=>simp [intOf];omega
theorem eJ (B:Nat) (v:Value) (l:List UInt8) (n:Int) (w:World) (h0: -9223372036854775808≤n) (h1:n≤9223372036854775807) (ho:OwnB w B v l) (hl:l.length≤1000000000) (hB:B≤w.heap.size):
  Calls Tryz.prog 115 #[v,.int .i64 n] w fun e w'=>∃v',e= .returned v'∧OwnB w' B v' (l ++ Ph.putI n)∧Below B w w'∧B≤w'.heap.size:=by
 by_cases hn:n<0
 ·exact aF6 B v l n w h0 h1 hn ho hl hB
 ·exact aF5 B v l n w h0 h1 (by omega) ho hl hB
theorem r7 {l:List UInt8} {a b c:Int} (h:Ph.getI l=(a,b.toNat,c)) (hb:0≤b):Ending.returned (.tuple #[.int .i64 a,.int .i64 b,.int .i64 c])= .returned (.tuple #[.int .i64 (Ph.getI l).1,.int .i64 (Ph.getI l).2.1,.int .i64 (Ph.getI l).2.2]):=by
 rw [h]
 exact aF4 rfl (by simp;omega) rfl
theorem r8 {l:List UInt8} {a b c a' c':Int} {b':Nat} (h:Ph.getI l=(a',b',c')) (h1:a=a') (h2:b=b') (h3:c=c'):Ending.returned (.tuple #[.int .i64 a,.int .i64 b,.int .i64 c])= .returned (.tuple #[.int .i64 (Ph.getI l).1,.int .i64 (Ph.getI l).2.1,.int .i64 (Ph.getI l).2.2]):=by
 rw [h,h1,h2,h3]
theorem aF7 (c:Nat) (w:World):
  Calls Tryz.prog 156 #[.slice none 0 c] w fun e w'=>e= .returned (.tuple #[.int .i64 (Ph.getI []).1,.int .i64 (Ph.getI []).2.1,.int .i64 (Ph.getI []).2.2])∧w=w':=by
 go_enter Tryz.func156,Tryz.ntmps156
 go_wp2
 go_loop [5,11] (fun u i=>u= .int .u64 0∧i= .int .i64 0) (fun _ i=>0)
 case atStart=>exact ⟨rfl,rfl⟩
 case round=>
  obtain ⟨rfl,rfl⟩:=hrel
  go_wp2
  go_ret3
  exact ⟨rfl,rfl⟩
set_option maxRecDepth 100000 in
theorem aF8 (b off cap:Nat) (l:List UInt8) (w:World) (hl:l.length≤cap) (hm:cap≤9223372036854775807) (hc:∀j (h:j<l.length),w.cell? ⟨b,off+j,none⟩=some (.int .u8 (l[j].toNat:Int))):
  Calls Tryz.prog 156 #[.slice (some ⟨b,off,none⟩) l.length cap] w fun e w'=>e= .returned (.tuple #[.int .i64 (Ph.getI l).1,.int .i64 (Ph.getI l).2.1,.int .i64 (Ph.getI l).2.2])∧w=w':=by
 have HC:=Lib.hid hc
 clear hc
 go_enter Tryz.func156,Tryz.ntmps156
 go_wp2
 go_loop [5,11] (fun u i=>∃k x:Nat,k≤l.length∧k≤9∧i= .int .i64 k∧u= .int .u64 x∧Hid (x<128 ^ k)∧Hid (Ph.getI l=Ph.getN k x (l.drop k))) (fun _ i=>l.length - (intOf i).toNat)
 case atStart=>exact ⟨0,0,by omega,by omega,rfl,rfl,by show 0<128 ^ 0;decide,rfl⟩
 case round=>
  obtain ⟨k,x,hk,hk9,rfl,rfl,HX,HK⟩:=hrel
  by_cases hlt:k<l.length
  ·have hlt':(k:Int)<(l.length:Int):=by omega
   have hcell:=HC.out k hlt
   have HD:Hid (l.drop k=l[k]::l.drop (k+1)):=List.drop_eq_getElem_cons hlt
   have hcb:=(l[k]).toNat_lt
   generalize l[k]=c at *
   by_cases h9:k=9
   ·subst h9
    have e9:(128:Nat) ^ 9=9223372036854775808:=by decide
    by_cases hc1:1<c.toNat
    ·have hc1':(1:Int)<(c.toNat:Int):=by omega
     have HF:Hid (Ph.getI l=(0,0,1)):=by show _=_;rw [HK.out,HD.out,Ph.getN_big _ _ _ _ rfl hc1]
     clear e9
     go_wp2
     go_ret3
     exact ⟨r7 HF.out (by omega),rfl⟩
    ·have hc1':(c.toNat:Int)≤1:=by omega
     have hc2':(c.toNat:Int)≤127:=by omega
     have hor:=Ph.or_last x c.toNat HX.out (by omega)
     have hy:x+c.toNat % 128*128 ^ 9<18446744073709551616:=by have:=HX.out;omega
     clear e9
     by_cases hz:c.toNat=0
     ·have hz':((c.toNat:Int) == 0)=true:=by rw [beq_iff_eq];omega
      have HF:Hid (Ph.getI l=(0,0,1)):=by show _=_;rw [HK.out,HD.out,Ph.getN_zero _ _ _ _ (by omega) hz]
      have HYY:=Lib.hid hy
      clear hz hy
      go_wp2
      go_ret3
      exact ⟨r7 HF.out (by omega),rfl⟩
     ·have hz':((c.toNat:Int) == 0)=false:=by rw [beq_eq_false_iff_ne];omega
      have HF:Hid (Ph.getI l=(Ph.unzig (x+c.toNat % 128*128 ^ 9),9+1,0)):=by show _=_;rw [HK.out,HD.out,Ph.getN_last _ _ _ _ (by omega) (by omega) (by omega)]
      clear hz
      generalize x+c.toNat % 128*128 ^ 9=y at *
      have HYY:=Lib.hid hy
      have hod:=and_one_u64 (y:Int) (by omega) (by omega)
      have hnt:=i64_not (y / 2) (by omega)
      have hdv:(0:Int)≤(y:Int) / 2:=by omega
      have hdv2:(y:Int) / 2≤9223372036854775807:=by omega
      clear hy
      by_cases ho:y % 2=1
      ·have ho':((y:Int) % 2 == 1)=true:=by rw [beq_iff_eq];omega
       have HU:=Lib.hid (Ph.unzig_odd y ho)
       clear ho
       go_wp2
       go_ret3
       refine ⟨r8 HF.out ?_ rfl rfl,rfl⟩
       have e:(y:Int) / 2=((y / 2:Nat):Int):=by omega
       show bits BinOp.xor IntKind.i64 (-1) ((y:Int) / 2)=_
       rw [e,i64_not _ (by have:=HYY.out;omega),HU.out]
      ·have ho':((y:Int) % 2 == 1)=false:=by rw [beq_eq_false_iff_ne];omega
       have HU:=Lib.hid (Ph.unzig_even y (by omega))
       clear ho
       go_wp2
       go_ret3
       refine ⟨r8 HF.out ?_ rfl rfl,rfl⟩
       show (y:Int) / 2=_
       rw [HU.out]
       omega
   ·have h9':((k:Int) == 9)=false:=by rw [beq_eq_false_iff_ne];omega
    have hsm:=Ph.sum_small x c.toNat k HX.out (by omega) hcb
    have hor:=Ph.or_seven x c.toNat k HX.out hcb hsm.1 (by omega)
    have hy:x+c.toNat % 128*128 ^ k<9223372036854775808:=by
     have h1:=hsm.2
     have h2:(128:Nat) ^ (k+1)≤128 ^ 9:=Nat.pow_le_pow_right (by omega) (by omega)
     have e9:(128:Nat) ^ 9=9223372036854775808:=by decide
     omega
    have HSM:=Lib.hid hsm.2
    clear hsm
    by_cases hc1:127<c.toNat
    ·have hc1':(127:Int)<(c.toNat:Int):=by omega
     have HF:Hid (Ph.getI l=Ph.getN (k+1) (x+c.toNat % 128*128 ^ k) (l.drop (k+1))):=by show _=_;rw [HK.out,HD.out,Ph.getN_more _ _ _ _ h9 (by omega)]
     generalize x+c.toNat % 128*128 ^ k=y at *
     have HYY:=Lib.hid hy
     clear hy
     go_wp2
     go_round
     case rel=>exact ⟨k+1,y,by omega,by omega,by go_num,rfl,HSM.out,HF.out⟩
     case measure=>simp [intOf];omega
    ·have hc1':(c.toNat:Int)≤127:=by omega
     by_cases hz:0<k∧c.toNat=0
     ·obtain ⟨hz1,hz2⟩:=hz
      have hk0:(0:Int)<(k:Int):=by omega
      have hz':((c.toNat:Int) == 0)=true:=by rw [beq_iff_eq];omega
      have HF:Hid (Ph.getI l=(0,0,1)):=by show _=_;rw [HK.out,HD.out,Ph.getN_zero _ _ _ _ hz1 hz2]
      have HYY:=Lib.hid hy
      clear hy hz2
      go_wp2
      go_ret3
      exact ⟨r7 HF.out (by omega),rfl⟩
     ·have HF:Hid (Ph.getI l=(Ph.unzig (x+c.toNat % 128*128 ^ k),k+1,0)):=by show _=_;rw [HK.out,HD.out,Ph.getN_last _ _ _ _ (by omega) (by omega) hz]
      have HZZ:=Lib.hid hz
      clear hz
      generalize x+c.toNat % 128*128 ^ k=y at *
      have HYY:=Lib.hid hy
      have hod:=and_one_u64 (y:Int) (by omega) (by omega)
      have hdv:(0:Int)≤(y:Int) / 2:=by omega
      have hdv2:(y:Int) / 2≤9223372036854775807:=by omega
      clear hy
      by_cases hk0:0<k
      all_goals
       by_cases ho:y % 2=1
       ·have hz':0<k→((c.toNat:Int) == 0)=false:=fun h=>by rw [beq_eq_false_iff_ne];have:=HZZ.out;omega
        have hzk:Hid True:=trivial
        first|(have hz2:=hz' hk0;clear hz')|clear hz'
        have ho':((y:Int) % 2 == 1)=true:=by rw [beq_iff_eq];omega
        have HU:=Lib.hid (Ph.unzig_odd y ho)
        clear ho
        go_wp2
        go_ret3
        refine ⟨r8 HF.out ?_ rfl rfl,rfl⟩
        have e:(y:Int) / 2=((y / 2:Nat):Int):=by omega
        show bits BinOp.xor IntKind.i64 (-1) ((y:Int) / 2)=_
        rw [e,i64_not _ (by have:=HYY.out;omega),HU.out]
       ·have hz':0<k→((c.toNat:Int) == 0)=false:=fun h=>by rw [beq_eq_false_iff_ne];have:=HZZ.out;omega
        have hzk:Hid True:=trivial
        first|(have hz2:=hz' hk0;clear hz')|clear hz'
        have ho':((y:Int) % 2 == 1)=false:=by rw [beq_eq_false_iff_ne];omega
        have HU:=Lib.hid (Ph.unzig_even y (by omega))
        clear ho
        go_wp2
        go_ret3
        refine ⟨r8 HF.out ?_ rfl rfl,rfl⟩
        show (y:Int) / 2=_
        rw [HU.out]
        omega
  ·have hlt':(l.length:Int)≤(k:Int):=by omega
   have HF:Hid (Ph.getI l=(0,0,2)):=by show _=_;rw [HK.out,List.drop_eq_nil_of_le (by omega),Ph.getN_end]
   go_wp2
   go_ret3
   exact ⟨r7 HF.out (by omega),rfl⟩
end Go.Proofs.YtgpbngfehfbndaaGreatDoor
namespace Go.Proofs.YtgpbngfehfbndaaGreatDoor.Sw
open Go.RowKit Go.Sx
theorem aF9 (ad:Option Addr) (cap:Nat) (w:World):
  Calls Tryz.prog 156 ⟨[.slice ad 0 cap]⟩ w fun e W'=>e= .returned (.tuple #[.int .i64 (Ph.getI []).1,.int .i64 (Ph.getI []).2.1,.int .i64 (Ph.getI []).2.2])∧w=W':=by
 cases ad with
 |none=>exact aF7 cap w
 |some a=>
  go_enter Tryz.func156,Tryz.ntmps156
  go_wp2
  go_loop [5,11] (fun u i=>u= .int .u64 0∧i= .int .i64 0) (fun _ i=>0)
  case atStart=>exact ⟨rfl,rfl⟩
  case round=>
   obtain ⟨rfl,rfl⟩:=hrel
   go_wp2
   go_ret3
   exact ⟨rfl,rfl⟩
theorem nI (W:World) (v:Value) (l:List UInt8) (r:RdB W v l):
  Calls Tryz.prog 156 ⟨[v]⟩ W fun e W'=>e= .returned (.tuple #[.int .i64 (Ph.getI l).1,.int .i64 (Ph.getI l).2.1,.int .i64 (Ph.getI l).2.2])∧W=W':=by
 obtain ⟨ad,cap,rfl,h3,h4,rfl|⟨b,o,rfl,hc⟩⟩:=r.cells
 ·exact aF9 ad cap W
 ·exact aF8 b o cap l W h3 h4 hc
theorem nJ {x:Int} (h0: -9223372036854775808≤x) (h1:x≤9223372036854775807):IntKind.i64.wrap x=x:=IntWalk.i64_in _ (by omega)
theorem wE (W:World) (v:Value) (l:List UInt8) (r:RdB W v l):
  Calls Tryz.prog 157 ⟨[v]⟩ W fun e W'=>e= .returned (.tuple #[.string ⟨(Ph.getT l).1.toArray⟩,.int .i64 (Ph.getT l).2.1,.int .i64 (Ph.getT l).2.2])∧W=W':=by
 have hlen:l.length≤9223372036854775807:=by have:=r.len;exact this
 have hle:=Ph.getI_le l
 have hG:=nI W v l r
 obtain ⟨ad,cap,rfl, -⟩:=r.cells
 have hw:=Has.start (G:=0) (w:=W) (Nat.zero_le _)
 refine enter Tryz.func157 Tryz.ntmps157 rfl rfl fun a hs=>?_
 refine zA hs hw ?_;clear hs;intro a hs
 refine aF hs (hc:=hG) (k:=?_);rintro e0 W1 ⟨rfl,rfl⟩;refine ⟨_,rfl,?_⟩;clear hs hG;intro a hs
 generalize hg:Ph.getI l=g at *
 obtain ⟨n,k,e⟩:=g
 simp only at hle hs
 by_cases he:e=0
 ·subst he
  by_cases hn:n<0
  ·have e1:decide (n<0)=true:=by simpa using hn
   have hT:Ph.getT l=([],0,1):=by simp [Ph.getT,hg,hn]
   refine zA hs hw ?_;clear hs;intro a hs
   rw [e1] at hs
   refine zA hs hw ?_;clear hs;intro a hs
   exact rt3 hs rfl rfl rfl rfl ⟨by rw [hT];rfl,rfl⟩
  ·have e1:decide (n<0)=false:=by simpa using hn
   refine zA hs hw ?_;clear hs;intro a hs
   rw [e1] at hs
   refine zA hs hw ?_;clear hs;intro a hs
   by_cases hb:n > 1048576
   ·have e2:decide (n > 1048576)=true:=by simpa using hb
    have hT:Ph.getT l=([],0,1):=by simp [Ph.getT,hg,hb]
    rw [e2] at hs
    refine zA hs hw ?_;clear hs;intro a hs
    exact rt3 hs rfl rfl rfl rfl ⟨by rw [hT];rfl,rfl⟩
   ·have e2:decide (n > 1048576)=false:=by simpa using hb
    rw [e2] at hs
    refine zA hs hw ?_;clear hs;intro a hs
    have e3:IntKind.i64.wrap ((l.length:Int) - (k:Int))=(l.length:Int) - k:=nJ (by omega) (by omega)
    rw [e3] at hs
    by_cases hm:n > (l.length:Int) - k
    ·have e4:decide (n > (l.length:Int) - k)=true:=by simpa using hm
     have hT:Ph.getT l=([],0,2):=by
      simp only [Ph.getT,hg]
      rw [if_neg (by simp),if_neg (by omega),if_pos (by omega)]
     rw [e4] at hs
     refine zA hs hw ?_;clear hs;intro a hs
     exact rt3 hs rfl rfl rfl rfl ⟨by rw [hT];rfl,rfl⟩
    ·have e4:decide (n > (l.length:Int) - k)=false:=by simpa using hm
     have hT:Ph.getT l=((l.drop k).take n.toNat,k+n.toNat,0):=by
      simp only [Ph.getT,hg]
      rw [if_neg (by simp),if_neg (by omega),if_neg (by omega)]
     rw [e4] at hs
     refine zA hs hw ?_;clear hs;intro a hs
     have e5:IntKind.i64.wrap ((k:Int)+n)=(k:Int)+n:=nJ (by omega) (by omega)
     rw [e5] at hs
     refine aDn (hs:=hs) (r:=r) (h0:=by omega) (h1:=by omega) (h2:=by omega) (m:=(l.drop k).take n.toNat) (hm:=by rw [show ((k:Int)+n).toNat - (k:Int).toNat=n.toNat by omega,show (k:Int).toNat=k by omega]) (c:=?_)
     clear hs;intro a ad2 cap2 hr2 hs
     refine l7 hs (r:=hr2) (k:=?_)
     clear hs;intro a hs
     refine zA hs hw ?_;clear hs;intro a hs
     rw [e5] at hs
     repeat (first|(refine sxv hs hw ?_;clear hs;intro a hs)|refine sxc hs ?_|(refine sxa hs hw ?_;clear hs hw;intro a b W hw hs)|(refine sxs hs hw ?_;clear hs hw;intro W hs hw))
     refine rt3 hs rfl rfl rfl rfl ⟨?_,rfl⟩
     rw [hT]
     simp only
     rw [show (((k+n.toNat:Nat):Int))=(k:Int)+n by omega]
 ·have e1:(e !=0)=true:=by simpa using he
  have hT:Ph.getT l=([],0,e):=by simp [Ph.getT,hg,he]
  refine zA hs hw ?_;clear hs;intro a hs
  rw [e1] at hs
  refine zA hs hw ?_;clear hs;intro a hs
  exact rt3 hs rfl rfl rfl rfl ⟨by rw [hT];rfl,rfl⟩
def getR (l:List UInt8):(Int×Int×ByteArray)×Nat×Int:=
 let g:=Ph.getI l
 if g.2.2≠0 then ((0,0,⟨#[]⟩),0,g.2.2)
 else if g.1=0 then ((0,0,⟨#[]⟩),g.2.1,0)
 else if g.1=1 then
  let h:=Ph.getI (l.drop g.2.1)
  if h.2.2≠0 then ((0,0,⟨#[]⟩),0,h.2.2) else ((1,h.1,⟨#[]⟩),g.2.1+h.2.1,0)
 else if g.1=2 then
  let h:=Ph.getT (l.drop g.2.1)
  if h.2.2≠0 then ((0,0,⟨#[]⟩),0,h.2.2)
  else if (bU 2 0 ⟨h.1.toArray⟩).2≠0 then ((0,0,⟨#[]⟩),0,1)
  else ((2,0,⟨h.1.toArray⟩),g.2.1+h.2.1,0)
 else ((0,0,⟨#[]⟩),0,1)
theorem aFa (k n:Int) (s:ByteArray):(bU k n s).2=0∨(bU k n s).2=1:=by
 unfold bU
 split
 ·exact .inl rfl
 ·split
  ·exact .inl rfl
  ·split
   ·exact .inl rfl
   ·exact .inr rfl
theorem aFb (n:Int):(bU 1 n ⟨#[]⟩).2=0:=by
 unfold bU
 rw [if_neg (fun h=>by have:=h.1;omega),if_pos ⟨rfl,rfl⟩]
theorem aFc:(bU 0 0 ⟨#[]⟩).2=0:=by
 unfold bU
 rw [if_pos ⟨rfl,rfl,rfl⟩]
theorem aFd (k:Int) (h0:k≠0) (h1:k≠1) (h2:k≠2):(bU k 0 ⟨#[]⟩).2=1:=by
 unfold bU
 rw [if_neg (fun h=>h0 h.1),if_neg (fun h=>h1 h.1),if_neg (fun h=>h2 h.1)]
theorem sA (l:List UInt8):(⟨(Ph.getT l).1.toArray⟩:ByteArray).size≤l.length:=by
 show (Ph.getT l).1.toArray.size≤_
 unfold Ph.getT
 simp only
 split
 ·simp
 ·split
  ·simp
  ·split
   ·simp
   ·simp;omega
theorem sB (l:List UInt8):(Ph.getT l).2.1≤l.length:=by
 have:=Ph.getI_le l
 unfold Ph.getT
 simp only
 split
 ·simp
 ·split
  ·simp
  ·split
   ·simp
   ·simp only;omega
theorem aFe (w:World) (v:Value) (l:List UInt8) (r:RdB w v l) (hT:Tabs w):
  Calls Tryz.prog 303 ⟨[v]⟩ w fun e W'=>e= .returned (.tuple #[.agg #[.int .i64 (getR l).1.1,.int .i64 (getR l).1.2.1,.string (getR l).1.2.2],.int .i64 (getR l).2.1,.int .i64 (getR l).2.2])∧Below w.heap.size w W':=by
 have hlen:l.length≤9223372036854775807:=by have:=r.len;exact this
 have hw:=Has.start (G:=0) (w:=w) (Nat.zero_le _)
 obtain ⟨ad,cap,rfl, -⟩:=r.cells
 have hle:=Ph.getI_le l
 refine enter Tryz.func303 Tryz.ntmps303 rfl rfl fun a hs=>?_
 repeat (first|(refine sxv hs hw ?_;clear hs;intro a hs)|refine sxc hs ?_|(refine sxa hs hw ?_;clear hs hw;intro a b W hw hs)|(refine sxs hs hw ?_;clear hs hw;intro W hs hw))
 have hG:=nI _ _ l (hw.rd (by repeat (first|exact In.hd|apply In.tl)) hw.ext.size r)
 refine aF hs (hc:=hG) (k:=?_);rintro e0 W1 ⟨rfl,rfl⟩;refine ⟨_,rfl,?_⟩;clear hs hG;intro a hs
 have gR:=getR.eq_1 l
 generalize hg:Ph.getI l=g at *
 obtain ⟨k,m,e⟩:=g
 simp only at hle hs gR
 by_cases he:e=0
 ·subst he
  simp only [ne_eq,not_true_eq_false,if_false] at gR
  by_cases k1:k=1
  ·subst k1
   simp only [if_neg (show¬((1:Int)=0) by decide),if_true] at gR
   repeat (first|(refine sxv hs hw ?_;clear hs;intro a hs)|refine sxc hs ?_|(refine sxa hs hw ?_;clear hs hw;intro a b W hw hs)|(refine sxs hs hw ?_;clear hs hw;intro W hs hw))
   refine oP (hs:=hs) (r:=r) (h0:=by omega) (h1:=by omega) (c:=?_)
   clear hs;intro a ad2 cap2 hr hs
   have hr2:=hw.rd (by repeat (first|exact In.hd|apply In.tl)) hw.ext.size hr
   rw [show (m:Int).toNat=m by omega] at hr hs hr2
   have hle2:=Ph.getI_le (l.drop m)
   rw [List.length_drop] at hle2
   have hG:=nI _ _ _ hr2
   refine aF hs (hc:=hG) (k:=?_);rintro e0 W1 ⟨rfl,rfl⟩;refine ⟨_,rfl,?_⟩;clear hs hG hr hr2;intro a hs
   generalize Ph.getI (l.drop m)=g at *
   obtain ⟨n,m2,e2⟩:=g
   simp only at hle2 hs gR
   by_cases he2:e2=0
   ·subst he2
    simp only [not_true_eq_false,if_false] at gR
    refine zB hs hw ?_;clear hs hw;intro a W hs hw
    have hO:=aFb n
    refine aF hs (hc:=lI 1 n ⟨#[]⟩ _ (by decide) (hT.keep (hw.end (by repeat (first|exact In.hd|apply In.tl))))) (k:=?_);rintro e0 W1 ⟨rfl,hb⟩;refine ⟨_,rfl,?_⟩;clear hs;intro a hs;replace hw:=hw.below hb;clear hb
    rw [hO] at hs
    refine zB hs hw ?_;clear hs hw;intro a W hs hw
    rw [nJ (x:=(m:Int)+(m2:Int)) (by omega) (by omega)] at hs
    repeat (first|(refine sxv hs hw ?_;clear hs;intro a hs)|refine sxc hs ?_|(refine sxa hs hw ?_;clear hs hw;intro a b W hw hs)|(refine sxs hs hw ?_;clear hs hw;intro W hs hw))
    exact rc3 hs rfl rfl hw (by repeat (first|exact In.hd|apply In.tl)) rfl rfl rfl ⟨by rw [gR];rfl,hw.end (by repeat (first|exact In.hd|apply In.tl))⟩
   ·have e1:(e2 !=0)=true:=by simpa using he2
    rw [if_pos he2] at gR
    refine zB hs hw ?_;clear hs hw;intro a W hs hw
    rw [e1] at hs
    refine zB hs hw ?_;clear hs hw;intro a W hs hw
    exact rc3 hs rfl rfl hw (by repeat (first|exact In.hd|apply In.tl)) rfl rfl rfl ⟨by rw [gR];rfl,hw.end (by repeat (first|exact In.hd|apply In.tl))⟩
  ·by_cases k2:k=2
   ·subst k2
    simp only [if_neg (show¬((2:Int)=0) by decide),if_neg (show¬((2:Int)=1) by decide),if_true] at gR
    repeat (first|(refine sxv hs hw ?_;clear hs;intro a hs)|refine sxc hs ?_|(refine sxa hs hw ?_;clear hs hw;intro a b W hw hs)|(refine sxs hs hw ?_;clear hs hw;intro W hs hw))
    refine oP (hs:=hs) (r:=r) (h0:=by omega) (h1:=by omega) (c:=?_)
    clear hs;intro a ad2 cap2 hr hs
    have hr2:=hw.rd (by repeat (first|exact In.hd|apply In.tl)) hw.ext.size hr
    rw [show (m:Int).toNat=m by omega] at hr hs hr2
    have hle2:=sB (l.drop m)
    have hsz:=sA (l.drop m)
    rw [List.length_drop] at hle2 hsz
    have hG:=wE _ _ _ hr2
    refine aF hs (hc:=hG) (k:=?_);rintro e0 W1 ⟨rfl,rfl⟩;refine ⟨_,rfl,?_⟩;clear hs hG hr hr2;intro a hs
    generalize Ph.getT (l.drop m)=g at *
    obtain ⟨s,m2,e2⟩:=g
    simp only at hle2 hsz hs gR
    generalize (⟨s.toArray⟩:ByteArray)=s at *
    by_cases he2:e2=0
    ·subst he2
     simp only [not_true_eq_false,if_false] at gR
     refine zB hs hw ?_;clear hs hw;intro a W hs hw
     refine aF hs (hc:=lI 2 0 s _ (by omega) (hT.keep (hw.end (by repeat (first|exact In.hd|apply In.tl))))) (k:=?_);rintro e0 W1 ⟨rfl,hb⟩;refine ⟨_,rfl,?_⟩;clear hs;intro a hs;replace hw:=hw.below hb;clear hb
     rcases aFa 2 0 s with hO|hO
     ·rw [hO] at hs gR
      refine zB hs hw ?_;clear hs hw;intro a W hs hw
      rw [nJ (x:=(m:Int)+(m2:Int)) (by omega) (by omega)] at hs
      repeat (first|(refine sxv hs hw ?_;clear hs;intro a hs)|refine sxc hs ?_|(refine sxa hs hw ?_;clear hs hw;intro a b W hw hs)|(refine sxs hs hw ?_;clear hs hw;intro W hs hw))
      exact rc3 hs rfl rfl hw (by repeat (first|exact In.hd|apply In.tl)) rfl rfl rfl ⟨by rw [gR];rfl,hw.end (by repeat (first|exact In.hd|apply In.tl))⟩
     ·rw [hO] at hs gR
      refine zB hs hw ?_;clear hs hw;intro a W hs hw
      exact rc3 hs rfl rfl hw (by repeat (first|exact In.hd|apply In.tl)) rfl rfl rfl ⟨by rw [gR];rfl,hw.end (by repeat (first|exact In.hd|apply In.tl))⟩
    ·have e1:(e2 !=0)=true:=by simpa using he2
     rw [if_pos he2] at gR
     refine zB hs hw ?_;clear hs hw;intro a W hs hw
     rw [e1] at hs
     refine zB hs hw ?_;clear hs hw;intro a W hs hw
     exact rc3 hs rfl rfl hw (by repeat (first|exact In.hd|apply In.tl)) rfl rfl rfl ⟨by rw [gR];rfl,hw.end (by repeat (first|exact In.hd|apply In.tl))⟩
   ·have e1:(k == 1)=false:=by simpa using k1
    have e2:(k == 2)=false:=by simpa using k2
    repeat (first|(refine sxv hs hw ?_;clear hs;intro a hs)|refine sxc hs ?_|(refine sxa hs hw ?_;clear hs hw;intro a b W hw hs)|(refine sxs hs hw ?_;clear hs hw;intro W hs hw))
    rw [e1] at hs
    refine zA hs hw ?_;clear hs;intro a hs
    rw [e2] at hs
    refine zA hs hw ?_;clear hs;intro a hs
    refine aF hs (hc:=lI k 0 ⟨#[]⟩ _ (by decide) (hT.keep (hw.end (by repeat (first|exact In.hd|apply In.tl))))) (k:=?_);rintro e0 W1 ⟨rfl,hb⟩;refine ⟨_,rfl,?_⟩;clear hs;intro a hs;replace hw:=hw.below hb;clear hb
    by_cases k0:k=0
    ·subst k0
     have hO:=aFc
     rw [hO] at hs
     refine zB hs hw ?_;clear hs hw;intro a W hs hw
     rw [nJ (x:=(m:Int)+0) (by omega) (by omega),Int.add_zero] at hs
     repeat (first|(refine sxv hs hw ?_;clear hs;intro a hs)|refine sxc hs ?_|(refine sxa hs hw ?_;clear hs hw;intro a b W hw hs)|(refine sxs hs hw ?_;clear hs hw;intro W hs hw))
     exact rc3 hs rfl rfl hw (by repeat (first|exact In.hd|apply In.tl)) rfl rfl rfl ⟨by rw [gR];rfl,hw.end (by repeat (first|exact In.hd|apply In.tl))⟩
    ·have hO:=aFd k k0 k1 k2
     rw [if_neg k0,if_neg k1,if_neg k2] at gR
     rw [hO] at hs
     refine zB hs hw ?_;clear hs hw;intro a W hs hw
     exact rc3 hs rfl rfl hw (by repeat (first|exact In.hd|apply In.tl)) rfl rfl rfl ⟨by rw [gR];rfl,hw.end (by repeat (first|exact In.hd|apply In.tl))⟩
 ·have e1:(e !=0)=true:=by simpa using he
  rw [if_pos he] at gR
  refine zA hs hw ?_;clear hs;intro a hs
  rw [e1] at hs
  refine zB hs hw ?_;clear hs hw;intro a W hs hw
  exact rc3 hs rfl rfl hw (by repeat (first|exact In.hd|apply In.tl)) rfl rfl rfl ⟨by rw [gR];rfl,hw.end (by repeat (first|exact In.hd|apply In.tl))⟩
def tk (s:List UInt8×Bool) (n:Nat) (err:Int):List UInt8×Bool:=(if s.2 || err !=0 then s.1 else s.1.drop n,s.2 || err !=0)
theorem wF (w0 W:World) (p:Nat) (sv:Value) (s:List UInt8×Bool) (n:Nat) (err:Int) (R:List Res) (i:In (Old w0 0) R) (r:RdB w0 sv s.1) (hn:n≤s.1.length) (hw:Has 0 w0 W (aA p [sv,.bool s.2] 312::R)):
  Calls Tryz.prog 268 ⟨[.pointer (some ⟨p,0,none⟩),.int .i64 (n:Int),.int .i64 err]⟩ W fun e W'=>e= .returned (.tuple #[])∧∃sv',RdB w0 sv' (tk s n err).1∧Has 0 w0 W' (aA p [sv',.bool (tk s n err).2] 312::R):=by
 obtain ⟨l,bad⟩:=s
 simp only at r hn hw
 obtain ⟨ad,cap,rfl, -⟩:=r.cells
 refine enter Tryz.func268 Tryz.ntmps268 rfl rfl fun a hs=>?_
 cases bad with
 |true=>
  refine zB hs hw ?_;clear hs hw;intro a W hs hw
  exact cO hs rfl ⟨rfl,_,r,hw⟩
 |false=>
  refine zB hs hw ?_;clear hs hw;intro a W hs hw
  cases he:(err !=0) with
  |true=>
   rw [he] at hs hw
   refine zG hs ?_
   exact cO hs rfl ⟨rfl,_,by simp only [tk,he];exact r,by simp only [tk,he];exact hw⟩
  |false=>
   rw [he] at hs hw
   refine zA hs hw ?_;clear hs;intro a hs
   refine oP (hs:=hs) (r:=r) (h0:=by omega) (h1:=by omega) (c:=?_);clear hs;intro a ad' cap' r' hs
   refine zB hs hw ?_;clear hs hw;intro a W hs hw
   rw [Int.toNat_natCast] at r' hw
   exact cO hs rfl ⟨rfl,_,by simp only [tk,he];exact r',by simp only [tk,he];exact hw⟩
theorem aFf (l:List UInt8):(getR l).2.1≤l.length:=by
 have h1:=Ph.getI_le l
 unfold getR
 simp only
 split
 ·simp
 ·split
  ·exact h1
  ·split
   ·split
    ·simp
    ·have:=Ph.getI_le (l.drop (Ph.getI l).2.1)
     rw [List.length_drop] at this
     simp only;omega
   ·split
    ·split
     ·simp
     ·have:=sB (l.drop (Ph.getI l).2.1)
      rw [List.length_drop] at this
      split <;> simp only <;> omega
    ·simp
theorem pI (w0 W:World) (p:Nat) (sv:Value) (s:List UInt8×Bool) (R:List Res) (i:In (Old w0 0) R) (r:RdB w0 sv s.1) (hw:Has 0 w0 W (aA p [sv,.bool s.2] 312::R)):
  Calls Tryz.prog 232 ⟨[.pointer (some ⟨p,0,none⟩)]⟩ W fun e W'=>e= .returned (.int .i64 (Ph.getI s.1).1)∧∃sv',RdB w0 sv' (tk s (Ph.getI s.1).2.1 (Ph.getI s.1).2.2).1∧Has 0 w0 W' (aA p [sv',.bool (tk s (Ph.getI s.1).2.1 (Ph.getI s.1).2.2).2] 312::R):=by
 refine enter Tryz.func232 Tryz.ntmps232 rfl rfl fun a hs=>?_
 refine zA hs hw ?_;clear hs;intro a hs
 refine aF hs (hc:=nI _ sv s.1 (hw.rd (In.tl i) hw.ext.size r)) (k:=?_);rintro e0 W1 ⟨rfl,rfl⟩;refine ⟨_,rfl,?_⟩;clear hs;intro a hs
 refine zA hs hw ?_;clear hs;intro a hs
 refine aF hs (hc:=wF w0 _ p sv s _ _ R i r (Ph.getI_le s.1) hw) (k:=?_);rintro e0 W1 ⟨rfl,sv',r',hw'⟩;refine ⟨_,rfl,?_⟩;clear hs hw;intro a hs
 have hw:=hw';clear hw'
 refine zA hs hw ?_;clear hs;intro a hs
 exact rt1 hs rfl rfl ⟨rfl,sv',r',hw⟩
theorem aFg {G:Nat} {w W:World} {x y q:Res} {R:List Res} (h:Has G w W (x::y::q::R)):Has G w W (q::x::y::R):=
 ⟨h.ext,h.glob,HasIn.swap (let ⟨F1,h1,h2,h3⟩:=h.has;⟨F1,h1,h2,HasIn.swap h3⟩)⟩
theorem wG (w0 W:World) (p:Nat) (sv:Value) (s:List UInt8×Bool) (R:List Res) (i:In (Old w0 0) R) (r:RdB w0 sv s.1) (hT:Tabs w0) (hw:Has 0 w0 W (aA p [sv,.bool s.2] 312::R)):
  Calls Tryz.prog 269 ⟨[.pointer (some ⟨p,0,none⟩)]⟩ W fun e W'=>e= .returned (.agg ⟨[.int .i64 (getR s.1).1.1,.int .i64 (getR s.1).1.2.1,.string (getR s.1).1.2.2]⟩)∧∃sv',RdB w0 sv' (tk s (getR s.1).2.1 (getR s.1).2.2).1∧Has 0 w0 W' (aA p [sv',.bool (tk s (getR s.1).2.1 (getR s.1).2.2).2] 312::R):=by
 refine enter Tryz.func269 Tryz.ntmps269 rfl rfl fun a hs=>?_
 repeat (first|(refine sxv hs hw ?_;clear hs;intro a hs)|refine sxc hs ?_|(refine sxa hs hw ?_;clear hs hw;intro a b W hw hs)|(refine sxs hs hw ?_;clear hs hw;intro W hs hw))
 refine aF hs (hc:=aFe _ sv s.1 (hw.rd (In.tl (In.tl i)) hw.ext.size r) (hT.keep (hw.end (In.tl (In.tl i))))) (k:=?_);rintro e0 W1 ⟨rfl,hb⟩;refine ⟨_,rfl,?_⟩;clear hs;intro a hs;replace hw:=hw.below hb;clear hb
 repeat (first|(refine sxv hs hw ?_;clear hs;intro a hs)|refine sxc hs ?_|(refine sxa hs hw ?_;clear hs hw;intro a b W hw hs)|(refine sxs hs hw ?_;clear hs hw;intro W hs hw))
 have hw:=aFg hw
 refine aF hs (hc:=wF w0 _ p sv s _ _ _ (In.tl (In.tl i)) r (aFf s.1) hw) (k:=?_);rintro e0 W1 ⟨rfl,sv',r',hw'⟩;refine ⟨_,rfl,?_⟩;clear hs hw;intro a hs
 have hw:=hw';clear hw'
 refine zB hs hw ?_;clear hs hw;intro a W hs hw
 have hw':=hw.sub (List.Sublist.cons_cons _ (List.Sublist.cons _ (List.Sublist.cons _ (List.Sublist.refl _))))
 refine rc1 hs rfl rfl hw (In.tl (In.tl In.hd)) rfl ?_
 exact ⟨rfl,sv',r',hw'⟩
def bH (s:List UInt8×Bool):List UInt8×Bool:=tk s (Ph.getI s.1).2.1 (Ph.getI s.1).2.2
def eL (s:List UInt8×Bool):List UInt8×Bool:=tk s (Ph.getT s.1).2.1 (Ph.getT s.1).2.2
def dT (s:List UInt8×Bool):List UInt8×Bool:=tk s (getR s.1).2.1 (getR s.1).2.2
def dQ (s:List UInt8×Bool):OpD×(List UInt8×Bool):=
 let kind:=(Ph.getI s.1).1
 let s1:=bH s
 let key:ByteArray:=⟨(Ph.getT s1.1).1.toArray⟩
 let s2:=eL s1
 if kind=3 then
  let s3:=dT s2
  (⟨kind,key,(getR s2.1).1.1,(getR s2.1).1.2.1,(getR s2.1).1.2.2,(getR s3.1).1.1,(getR s3.1).1.2.1,(getR s3.1).1.2.2,0⟩,dT s3)
 else if kind=1 then (⟨kind,key,(getR s2.1).1.1,(getR s2.1).1.2.1,(getR s2.1).1.2.2,0,0,⟨#[]⟩,0⟩,dT s2)
 else if kind=4 then (⟨kind,key,0,0,⟨#[]⟩,0,0,⟨#[]⟩,(Ph.getI s2.1).1⟩,bH s2)
 else (⟨kind,key,0,0,⟨#[]⟩,0,0,⟨#[]⟩,0⟩,s2)
theorem aFh (w0 W:World) (p:Nat) (sv:Value) (s:List UInt8×Bool) (R:List Res) (i:In (Old w0 0) R) (r:RdB w0 sv s.1) (hT:Tabs w0) (hw:Has 0 w0 W (aA p [sv,.bool s.2] 312::R)):
  Calls Tryz.prog 233 ⟨[.pointer (some ⟨p,0,none⟩)]⟩ W fun e W'=>e= .returned (.agg ⟨bT (dQ s).1⟩)∧∃sv',RdB w0 sv' (dQ s).2.1∧Has 0 w0 W' (aA p [sv',.bool (dQ s).2.2] 312::R):=by
 refine enter Tryz.func233 Tryz.ntmps233 rfl rfl fun a hs=>?_
 repeat (first|(refine sxv hs hw ?_;clear hs;intro a hs)|refine sxc hs ?_|(refine sxa hs hw ?_;clear hs hw;intro a b W hw hs)|(refine sxs hs hw ?_;clear hs hw;intro W hs hw))
 have hw:=hw.swap2
 refine aF hs (hc:=pI w0 _ p sv s _ (In.tl i) r hw) (k:=?_);rintro e0 W1 ⟨rfl,sv1,r1,hw'⟩;refine ⟨_,rfl,?_⟩;clear hs hw;intro a hs
 have hw:=hw';clear hw'
 rw [show tk s (Ph.getI s.1).2.1 (Ph.getI s.1).2.2=bH s from rfl] at hw r1
 repeat (first|(refine sxv hs hw ?_;clear hs;intro a hs)|refine sxc hs ?_|(refine sxa hs hw ?_;clear hs hw;intro a b W hw hs)|(refine sxs hs hw ?_;clear hs hw;intro W hs hw))
 have hw:=hw.swap2
 refine aF hs (hc:=wE _ sv1 (bH s).1 (hw.rd (In.tl (In.tl (In.tl i))) hw.ext.size r1)) (k:=?_);rintro e0 W1 ⟨rfl,rfl⟩;refine ⟨_,rfl,?_⟩;clear hs;intro a hs
 refine zA hs hw ?_;clear hs;intro a hs
 refine aF hs (hc:=wF w0 _ p sv1 (bH s) _ _ _ (In.tl (In.tl i)) r1 (sB (bH s).1) hw) (k:=?_);rintro e0 W1 ⟨rfl,sv2,r2,hw'⟩;refine ⟨_,rfl,?_⟩;clear hs hw;intro a hs
 have hw:=hw';clear hw'
 rw [show tk (bH s) (Ph.getT (bH s).1).2.1 (Ph.getT (bH s).1).2.2=eL (bH s) from rfl] at hw r2
 obtain ⟨key,hkey⟩:∃key:ByteArray,(⟨(Ph.getT (bH s).1).1.toArray⟩:ByteArray)=key:=⟨_,rfl⟩
 rw [hkey] at hs
 obtain ⟨K,hK⟩:∃K,(Ph.getI s.1).1=K:=⟨_,rfl⟩
 have hD:dQ s=(if K=3 then (⟨K,key,(getR (eL (bH s)).1).1.1,(getR (eL (bH s)).1).1.2.1,(getR (eL (bH s)).1).1.2.2,(getR (dT (eL (bH s))).1).1.1,(getR (dT (eL (bH s))).1).1.2.1,(getR (dT (eL (bH s))).1).1.2.2,0⟩,dT (dT (eL (bH s))))
   else if K=1 then (⟨K,key,(getR (eL (bH s)).1).1.1,(getR (eL (bH s)).1).1.2.1,(getR (eL (bH s)).1).1.2.2,0,0,⟨#[]⟩,0⟩,dT (eL (bH s)))
   else if K=4 then (⟨K,key,0,0,⟨#[]⟩,0,0,⟨#[]⟩,(Ph.getI (eL (bH s)).1).1⟩,bH (eL (bH s)))
   else (⟨K,key,0,0,⟨#[]⟩,0,0,⟨#[]⟩,0⟩,eL (bH s))):=by unfold dQ;simp only;rw [hkey,hK]
 rw [hK] at hs hw
 clear hkey hK
 generalize eL (bH s)=s2 at *
 rw [hD]
 clear hD
 refine zB hs hw ?_;clear hs hw;intro a W hs hw
 by_cases k3:K=3
 ·subst k3
  refine zA hs hw ?_;clear hs;intro a hs
  refine aF hs (hc:=wG w0 _ p sv2 s2 _ (In.tl (In.tl i)) r2 hT hw) (k:=?_);rintro e0 W1 ⟨rfl,sv3,r3,hw'⟩;refine ⟨_,rfl,?_⟩;clear hs hw;intro a hs
  have hw:=hw';clear hw'
  rw [show tk (s2) (getR (s2).1).2.1 (getR (s2).1).2.2=dT (s2) from rfl] at hw r3
  refine zB hs hw ?_;clear hs hw;intro a W hs hw
  refine aF hs (hc:=wG w0 _ p sv3 (dT s2) _ (In.tl (In.tl i)) r3 hT hw) (k:=?_);rintro e0 W1 ⟨rfl,sv4,RR,hw'⟩;refine ⟨_,rfl,?_⟩;clear hs hw;intro a hs
  have hw:=hw';clear hw'
  rw [show tk ((dT s2)) (getR ((dT s2)).1).2.1 (getR ((dT s2)).1).2.2=dT ((dT s2)) from rfl] at hw RR
  refine zB hs hw ?_;clear hs hw;intro a W hs hw
  have hw':=hw.sub (List.Sublist.cons_cons _ (List.Sublist.cons _ (List.Sublist.cons _ (List.Sublist.refl _))))
  refine rc1 hs rfl rfl hw (In.tl (In.tl In.hd)) rfl ?_
  rw [if_pos rfl]
  exact ⟨rfl,_,RR,hw'⟩
 have e3:(K == 3)=false:=by simpa using k3
 rw [e3] at hs
 refine zA hs hw ?_;clear hs;intro a hs
 by_cases k1:K=1
 ·subst k1
  refine zA hs hw ?_;clear hs;intro a hs
  refine aF hs (hc:=wG w0 _ p sv2 s2 _ (In.tl (In.tl i)) r2 hT hw) (k:=?_);rintro e0 W1 ⟨rfl,sv3,RR,hw'⟩;refine ⟨_,rfl,?_⟩;clear hs hw;intro a hs
  have hw:=hw';clear hw'
  rw [show tk (s2) (getR (s2).1).2.1 (getR (s2).1).2.2=dT (s2) from rfl] at hw RR
  refine zB hs hw ?_;clear hs hw;intro a W hs hw
  have hw':=hw.sub (List.Sublist.cons_cons _ (List.Sublist.cons _ (List.Sublist.cons _ (List.Sublist.refl _))))
  refine rc1 hs rfl rfl hw (In.tl (In.tl In.hd)) rfl ?_
  rw [if_neg k3,if_pos rfl]
  exact ⟨rfl,_,RR,hw'⟩
 have e1:(K == 1)=false:=by simpa using k1
 rw [e1] at hs
 refine zA hs hw ?_;clear hs;intro a hs
 by_cases k4:K=4
 ·subst k4
  refine zA hs hw ?_;clear hs;intro a hs
  refine aF hs (hc:=pI w0 _ p sv2 s2 _ (In.tl (In.tl i)) r2 hw) (k:=?_);rintro e0 W1 ⟨rfl,sv3,RR,hw'⟩;refine ⟨_,rfl,?_⟩;clear hs hw;intro a hs
  have hw:=hw';clear hw'
  rw [show tk s2 (Ph.getI s2.1).2.1 (Ph.getI s2.1).2.2=bH s2 from rfl] at hw RR
  refine zB hs hw ?_;clear hs hw;intro a W hs hw
  have hw':=hw.sub (List.Sublist.cons_cons _ (List.Sublist.cons _ (List.Sublist.cons _ (List.Sublist.refl _))))
  refine rc1 hs rfl rfl hw (In.tl (In.tl In.hd)) rfl ?_
  rw [if_neg k3,if_neg k1,if_pos rfl]
  exact ⟨rfl,_,RR,hw'⟩
 have e4:(K == 4)=false:=by simpa using k4
 rw [e4] at hs
 have RR:=r2
 refine zB hs hw ?_;clear hs hw;intro a W hs hw
 have hw':=hw.sub (List.Sublist.cons_cons _ (List.Sublist.cons _ (List.Sublist.cons _ (List.Sublist.refl _))))
 refine rc1 hs rfl rfl hw (In.tl (In.tl In.hd)) rfl ?_
 rw [if_neg k3,if_neg k1,if_neg k4]
 exact ⟨rfl,_,RR,hw'⟩
theorem aFi {k n:Int} {s:ByteArray} (t:List UInt8) (h:(bU k n s).2=0) (h0: -9223372036854775808≤n) (h1:n≤9223372036854775807) (hs:s.size≤1000000):
  getR (cU k n s ++ t)=((k,n,s),(cU k n s).length,0):=by
 have hd:s.data.toList.length=s.size:=by rw [Array.length_toList];rfl
 have hO:=h
 unfold bU at h
 have he:s.size=0→s=⟨#[]⟩:=fun h=>by
  apply ByteArray.ext
  exact Array.eq_empty_of_size_eq_zero h
 split at h
 ·rename_i c
  obtain ⟨rfl,rfl,hz⟩:=c
  have g:=Ph.getI_putI 0 t (by omega) (by omega)
  have e:cU 0 0 s=Ph.putI 0:=by simp [cU]
  rw [e,getR.eq_1,g,he hz]
  simp
 ·split at h
  ·rename_i c
   obtain ⟨rfl,hz⟩:=c
   have e:cU 1 n s=Ph.putI 1 ++ Ph.putI n:=by simp [cU]
   have g:=Ph.getI_putI 1 (Ph.putI n ++ t) (by omega) (by omega)
   have g2:=Ph.getI_putI n t h0 h1
   rw [e,List.append_assoc,getR.eq_1,g,he hz]
   simp only [List.drop_left,g2,List.length_append]
   simp
  ·split at h
   ·rename_i c
    obtain ⟨rfl,rfl,hz,hv⟩:=c
    have e:cU 2 0 s=Ph.putI 2 ++ Ph.putT s.data.toList:=by simp [cU]
    have g:=Ph.getI_putI 2 (Ph.putT s.data.toList ++ t) (by omega) (by omega)
    have g2:=Ph.getT_putT s.data.toList t (by omega)
    rw [e,List.append_assoc,getR.eq_1,g]
    simp only [List.drop_left,g2,List.length_append,aA0,hO]
    simp
   ·cases h
def fM:Nat→Int→List OpD→(List UInt8×Bool)→List OpD×(List UInt8×Bool)
 |0,_,l,s=>(l,s)
 |f+1,n,l,s=>if 0<n∧s.2=false∧l.length≤8 then fM f (n - 1) (l ++ [(dQ s).1]) (dQ s).2 else (l,s)
def kL (b:List UInt8):(Int×Int×List OpD)×(List UInt8×Bool):=
 let s1:=bH (b,false)
 let s2:=bH s1
 let r:=fM 10 (Ph.getI s2.1).1 [] (bH s2)
 (((Ph.getI b).1,(Ph.getI s1.1).1,r.1),r.2)
def decode (b:List UInt8):Option (Int×Int×List OpD):=
 let p:=kL b
 if p.2.2=false∧dM p.1.1 p.1.2.1 p.1.2.2=true∧d9 p.1.1 p.1.2.1 p.1.2.2=b then some p.1 else none
theorem pJ (n:Int) (t:List UInt8) (h:i64 n):bH (Ph.putI n ++ t,false)=(t,false)∧(Ph.getI (Ph.putI n ++ t)).1=n:=by
 unfold bH tk
 simp only
 rw [Ph.getI_putI n t h.1 h.2]
 simp
theorem aFj (s:ByteArray) (t:List UInt8) (h:s.size≤1000000):eL (Ph.putT s.data.toList ++ t,false)=(t,false)∧(⟨(Ph.getT (Ph.putT s.data.toList ++ t)).1.toArray⟩:ByteArray)=s:=by
 have hd:s.data.toList.length=s.size:=by rw [Array.length_toList];rfl
 unfold eL tk
 simp only
 rw [Ph.getT_putT s.data.toList t (by omega)]
 refine ⟨?_,aA0 s⟩
 simp
theorem wH {k n:Int} {s:ByteArray} (t:List UInt8) (h:(bU k n s).2=0) (hn:i64 n) (hs:s.size≤1000000):dT (cU k n s ++ t,false)=(t,false)∧(getR (cU k n s ++ t)).1=(k,n,s):=by
 unfold dT tk
 simp only
 rw [aFi t h hn.1 hn.2 hs]
 simp
theorem aFk (o:OpD) (t:List UInt8) (hm:fF o=true) (ho:OpOk o):dQ (opB o ++ t,false)=(o,(t,false)):=by
 obtain ⟨kind,key,vk,vn,vs,ok,on,os,n⟩:=o
 obtain ⟨hk,hvk,hvn,hok,hon,hn,hkey,hvs,hos⟩:=ho
 simp only at hk hvk hvn hok hon hn hkey hvs hos
 simp only [fF,eS,Bool.and_eq_true,beq_iff_eq] at hm
 obtain ⟨⟨⟨-,hv⟩,hO⟩,hm⟩:=hm
 have key0:∀x:List UInt8,bH (Ph.putI kind ++ (Ph.putT key.data.toList ++ x),false)=(Ph.putT key.data.toList ++ x,false)∧(Ph.getI (Ph.putI kind ++ (Ph.putT key.data.toList ++ x))).1=kind:=fun x=>pJ kind _ hk
 have key1:∀x:List UInt8,eL (Ph.putT key.data.toList ++ x,false)=(x,false)∧(⟨(Ph.getT (Ph.putT key.data.toList ++ x)).1.toArray⟩:ByteArray)=key:=fun x=>aFj key x hkey
 have main:∀x:List UInt8,dQ (Ph.putI kind ++ (Ph.putT key.data.toList ++ x),false)=(if kind=3 then
   (⟨kind,key,(getR x).1.1,(getR x).1.2.1,(getR x).1.2.2,(getR (dT (x,false)).1).1.1,(getR (dT (x,false)).1).1.2.1,(getR (dT (x,false)).1).1.2.2,0⟩,dT (dT (x,false)))
   else if kind=1 then (⟨kind,key,(getR x).1.1,(getR x).1.2.1,(getR x).1.2.2,0,0,⟨#[]⟩,0⟩,dT (x,false))
   else if kind=4 then (⟨kind,key,0,0,⟨#[]⟩,0,0,⟨#[]⟩,(Ph.getI x).1⟩,bH (x,false))
   else (⟨kind,key,0,0,⟨#[]⟩,0,0,⟨#[]⟩,0⟩,(x,false))):=fun x=>by
  unfold dQ
  simp only
  rw [(key0 x).1,(key0 x).2]
  simp only
  rw [(key1 x).1,(key1 x).2]
 have hA:opB ⟨kind,key,vk,vn,vs,ok,on,os,n⟩ ++ t=Ph.putI kind ++ (Ph.putT key.data.toList ++ ((if kind=3 then cU vk vn vs ++ cU ok on os else if kind=1 then cU vk vn vs else if kind=4 then Ph.putI n else []) ++ t)):=by
  unfold opB
  simp only [List.append_assoc]
 rw [hA,main]
 clear main hA key0 key1
 split at hm
 ·rename_i k1
  subst k1
  simp only [Bool.and_eq_true,beq_iff_eq] at hm
  obtain ⟨⟨-,h2⟩,rfl⟩:=hm
  obtain ⟨rfl,rfl,rfl⟩:=pE.1 h2
  obtain ⟨g1,g2⟩:=wH t hv hvn hvs
  rw [if_neg (by decide),if_pos rfl,if_neg (by decide),if_pos rfl,g1,g2]
 ·rename_i k1
  split at hm
  ·rename_i k2
   subst k2
   simp only [Bool.and_eq_true,beq_iff_eq] at hm
   obtain ⟨⟨h1,h2⟩,rfl⟩:=hm
   obtain ⟨rfl,rfl,rfl⟩:=pE.1 h1
   obtain ⟨rfl,rfl,rfl⟩:=pE.1 h2
   rw [if_neg (by decide),if_neg (by decide),if_neg (by decide),if_neg (by decide),if_neg (by decide),if_neg (by decide),List.nil_append]
  ·split at hm
   ·rename_i k3
    subst k3
    simp only [Bool.and_eq_true,beq_iff_eq] at hm
    obtain ⟨-,rfl⟩:=hm
    obtain ⟨g1,g2⟩:=wH (cU ok on os ++ t) hv hvn hvs
    obtain ⟨g3,g4⟩:=wH t hO hon hos
    rw [if_pos rfl,if_pos rfl,List.append_assoc,g1,g2]
    simp only
    rw [g3,g4]
   ·split at hm
    ·rename_i k4
     subst k4
     simp only [Bool.and_eq_true] at hm
     obtain ⟨⟨⟨h1,h2⟩, -⟩, -⟩:=hm
     obtain ⟨rfl,rfl,rfl⟩:=pE.1 h1
     obtain ⟨rfl,rfl,rfl⟩:=pE.1 h2
     obtain ⟨g1,g2⟩:=pJ n t hn
     rw [if_neg (by decide),if_neg (by decide),if_pos rfl,if_neg (by decide),if_neg (by decide),if_pos rfl,g1,g2]
    ·cases hm
theorem aFl (f:Nat) (acc:List OpD) (s:List UInt8×Bool):fM f 0 acc s=(acc,s):=by
 cases f with
 |zero=>rfl
 |succ f=>rw [fM,if_neg (by omega)]
theorem aAh:∀(l:List OpD) (f:Nat) (acc:List OpD) (t:List UInt8),acc.length+l.length≤8→l.length≤f→l.all fF=true→(∀o∈l,OpOk o)→fM f (l.length:Int) acc (l.flatMap opB ++ t,false)=(acc ++ l,(t,false))
 | [],f,acc,t,_,_,_,_=>by
  rw [show (([]:List OpD).length:Int)=0 from rfl,aFl];simp
 |o::l,0,acc,t,_,hf,_,_=>by simp at hf
 |o::l,f+1,acc,t,h8,hf,hm,ho=>by
  simp only [List.length_cons] at h8 hf
  rw [List.all_cons,Bool.and_eq_true] at hm
  rw [fM,if_pos ⟨by simp only [List.length_cons];omega,rfl,by omega⟩,List.flatMap_cons,List.append_assoc,aFk o _ hm.1 (ho o (by simp))]
  simp only
  have e:((o::l).length:Int) - 1=(l.length:Int):=by simp only [List.length_cons];omega
  rw [e,aAh l f (acc ++ [o]) t (by simp;omega) (by omega) hm.2 fun x hx=>ho x (by simp [hx])]
  simp
theorem aFm {c q:Int} {l:List OpD} (t:List UInt8) (h:dM c q l=true) (ho:∀o∈l,OpOk o):kL (d9 c q l ++ t)=((c,q,l),(t,false)):=by
 obtain ⟨hc,hq,hl,hm, -⟩:=mI h
 have e:d9 c q l ++ t=Ph.putI c ++ (Ph.putI q ++ (Ph.putI l.length ++ (l.flatMap opB ++ t))):=by
  unfold d9 iB;simp only [List.append_assoc]
 obtain ⟨g1,g2⟩:=pJ c (Ph.putI q ++ (Ph.putI l.length ++ (l.flatMap opB ++ t))) ⟨by omega,by omega⟩
 obtain ⟨g3,g4⟩:=pJ q (Ph.putI l.length ++ (l.flatMap opB ++ t)) ⟨by omega,by omega⟩
 obtain ⟨g5,g6⟩:=pJ l.length (l.flatMap opB ++ t) ⟨by omega,by omega⟩
 unfold kL
 simp only
 rw [e,g1,g2]
 simp only
 rw [g3,g4]
 simp only
 rw [g5,g6,aAh l 10 [] t (by simp;omega) (by omega) hm ho]
 rfl
theorem aFn {c q:Int} {l:List OpD} (h:dM c q l=true) (ho:∀o∈l,OpOk o):decode (d9 c q l)=some (c,q,l):=by
 have:=aFm [] h ho
 rw [List.append_nil] at this
 unfold decode
 simp only
 rw [this,if_pos ⟨rfl,h,rfl⟩]
theorem aFo {b:List UInt8} {c q:Int} {l:List OpD} (h:decode b=some (c,q,l)):dM c q l=true∧d9 c q l=b∧(kL b).1=(c,q,l):=by
 unfold decode at h
 simp only at h
 split at h
 ·rename_i hh
  have e:=Option.some.inj h
  rw [e] at hh
  exact ⟨hh.2.1,hh.2.2,e⟩
 ·cases h
theorem aFp (y:Nat) (h:y<18446744073709551616):i64 (Ph.unzig y):=by
 unfold Ph.unzig i64
 split <;> omega
theorem aAi:∀(l:List UInt8) (i u:Nat),u<128 ^ i→i≤9→i64 (Ph.getN i u l).1
 | [],i,u,_,_=>by rw [Ph.getN_end];simp [i64]
 |c::t,i,u,hu,hi=>by
  have hc:=c.toNat_lt
  rw [Ph.getN]
  split
  ·simp [i64]
  ·rename_i c1
   split
   ·rename_i c2
    have h8:i≤8:=by omega
    exact aAi t (i+1) _ (Ph.sum_small u c.toNat i hu h8 (by omega)).2 (by omega)
   ·rename_i c2
    split
    ·simp [i64]
    ·refine aFp _ ?_
     by_cases h8:i≤8
     ·have h1:=(Ph.sum_small u c.toNat i hu h8 (by omega)).2
      have h2:128 ^ (i+1)≤128 ^ 9:=Nat.pow_le_pow_right (by omega) (by omega)
      have h3:(128:Nat) ^ 9=9223372036854775808:=by decide
      omega
     ·obtain rfl:i=9:=by omega
      have h3:(128:Nat) ^ 9=9223372036854775808:=by decide
      rw [h3] at hu
      have:c.toNat≤1:=by omega
      have h4:c.toNat % 128*128 ^ 9≤9223372036854775808:=by
       rw [h3,Nat.mod_eq_of_lt (by omega)]
       omega
      omega
theorem nK (l:List UInt8):i64 (Ph.getI l).1:=aAi l 0 0 (by simp) (by omega)
theorem aAj (l:List UInt8):i64 (getR l).1.1∧i64 (getR l).1.2.1∧(getR l).1.2.2.size≤l.length:=by
 have h1:=nK (l.drop (Ph.getI l).2.1)
 have z:i64 0:=⟨by omega,by omega⟩
 have e0:(⟨#[]⟩:ByteArray).size=0:=rfl
 unfold getR
 simp only
 split
 ·exact ⟨z,z,by simp [e0]⟩
 ·split
  ·exact ⟨z,z,by simp [e0]⟩
  ·split
   ·split
    ·exact ⟨z,z,by simp [e0]⟩
    ·exact ⟨⟨by simp,by simp⟩,h1,by simp [e0]⟩
   ·split
    ·split
     ·exact ⟨z,z,by simp [e0]⟩
     ·have:=sA (l.drop (Ph.getI l).2.1)
      rw [List.length_drop] at this
      split
      ·exact ⟨z,z,by simp [e0]⟩
      ·exact ⟨⟨by simp,by simp⟩,z,by simp only;omega⟩
    ·exact ⟨z,z,by simp [e0]⟩
theorem lN (s:List UInt8×Bool) (n:Nat) (err:Int):(tk s n err).1.length≤s.1.length:=by
 unfold tk
 simp only
 split
 ·exact Nat.le_refl _
 ·rw [List.length_drop];omega
theorem aFq (s:List UInt8×Bool) (h:s.1.length≤1000000):OpOk (dQ s).1∧(dQ s).2.1.length≤s.1.length:=by
 have h1:(bH s).1.length≤s.1.length:=lN _ _ _
 have h2:(eL (bH s)).1.length≤(bH s).1.length:=lN _ _ _
 have k0:=nK s.1
 have hkey:=sA (bH s).1
 unfold dQ
 simp only
 generalize eL (bH s)=s2 at *
 have h3:(dT s2).1.length≤s2.1.length:=lN _ _ _
 have h4:(dT (dT s2)).1.length≤(dT s2).1.length:=lN _ _ _
 have h5:(bH s2).1.length≤s2.1.length:=lN _ _ _
 obtain ⟨a1,a2,a3⟩:=aAj s2.1
 obtain ⟨b1,b2,b3⟩:=aAj (dT s2).1
 have c1:=nK s2.1
 have z:i64 0:=⟨by omega,by omega⟩
 have e0:(⟨#[]⟩:ByteArray).size≤1000000:=by show 0≤_;omega
 split
 ·exact ⟨⟨k0,a1,a2,b1,b2,z,by simp only;omega,by simp only;omega,by simp only;omega⟩,by simp only;omega⟩
 ·split
  ·exact ⟨⟨k0,a1,a2,z,z,z,by simp only;omega,by simp only;omega,e0⟩,by simp only;omega⟩
  ·split
   ·exact ⟨⟨k0,z,z,z,z,c1,by simp only;omega,e0,e0⟩,by simp only;omega⟩
   ·exact ⟨⟨k0,z,z,z,z,z,by simp only;omega,e0,e0⟩,by simp only;omega⟩
theorem aAk:∀(f:Nat) (n:Int) (l:List OpD) (s:List UInt8×Bool),s.1.length≤1000000→l.length≤9→(∀o∈l,OpOk o)→(fM f n l s).1.length≤9∧∀o∈(fM f n l s).1,OpOk o
 |0,n,l,s,_,h9,ho=>⟨h9,ho⟩
 |f+1,n,l,s,hs,h9,ho=>by
  rw [fM]
  split
  ·rename_i c
   obtain ⟨g1,g2⟩:=aFq s hs
   refine aAk f (n - 1) _ _ (by omega) (by simp;omega) fun o h=>?_
   rcases List.mem_append.1 h with h|h
   ·exact ho o h
   ·rw [List.mem_singleton] at h;rw [h];exact g1
  ·exact ⟨h9,ho⟩
theorem aAl (b:List UInt8) (h:b.length≤1000000):i64 (kL b).1.1∧i64 (kL b).1.2.1∧(kL b).1.2.2.length≤9∧∀o∈(kL b).1.2.2,OpOk o:=by
 have h1:(bH (b,false)).1.length≤b.length:=lN _ _ _
 have h2:(bH (bH (b,false))).1.length≤(bH (b,false)).1.length:=lN _ _ _
 have h3:(bH (bH (bH (b,false)))).1.length≤(bH (bH (b,false))).1.length:=lN _ _ _
 have:=aAk 10 (Ph.getI (bH (bH (b,false))).1).1 [] (bH (bH (bH (b,false)))) (by omega) (by simp) (by simp)
 exact ⟨nK _,nK _,this.1,this.2⟩
theorem aAm {b:List UInt8} {c q:Int} {l:List OpD} (hb:b.length≤1000000) (h:decode b=some (c,q,l)):i64 c∧i64 q∧l.length≤9∧∀o∈l,OpOk o:=by
 have:=aAl b hb
 rw [(aFo h).2.2] at this
 exact this
structure dU where
 ix:Int
 f:dV
 rows:List cD
structure bZ where
 ix:Int
 term:Int
 kind:Int
 data:ByteArray
def bE (e:bZ):List Value:=[.int .i64 e.ix,.int .i64 e.term,.int .i64 e.kind,.string e.data]
def pK (ix:Int) (t:dU) (b:cR):dU×cD×Bool:=
 match (next t.f b).2.2 with
 |true=>(⟨ix,(next t.f b).1,t.rows ++ [(next t.f b).2.1]⟩,(next t.f b).2.1,true)
 |false=>(⟨ix,t.f,t.rows⟩,zeroRow,false)
def eB (t : dU) (e : bZ) : dU × cD × Bool :=
  if e.ix = IntKind.i64.wrap (t.ix + 1) then
    (match e.kind == 2, decode e.data.data.toList with
     | true, some p => pK (IntKind.i64.wrap (t.ix + 1)) t ⟨p.1, p.2.1, p.2.2⟩
     | _, _ => (⟨IntKind.i64.wrap (t.ix + 1), t.f, t.rows⟩, zeroRow, false))
  else (t, zeroRow, false)
def cT (b:cR):List UInt8:=d9 b.c b.q b.l
def dX (r:cD):List UInt8:=Ph.putT (cT r.b)
def jI (t:dU):List UInt8:=Ph.putI t.ix ++ (Ph.putI (t.rows.length:Int) ++ t.rows.flatMap dX)
def lO (p:Int×Int×List OpD):cR:=⟨p.1,p.2.1,p.2.2⟩
def jY : Nat → dV → List cD → List UInt8 → Option (dV × List cD)
  | 0, f, rs, _ => some (f, rs)
  | n + 1, f, rs, s =>
    match (Ph.getT s).2.2 == 0, decode (Ph.getT s).1 with
    | true, some p =>
      (match (next f (lO p)).2.2 with
       | true => jY n (next f (lO p)).1 (rs ++ [(next f (lO p)).2.1]) (s.drop (Ph.getT s).2.1)
       | false => none)
    | _, _ => none
def kM (s:List UInt8):Option (Int×Nat×List UInt8):=
 if (Ph.getI s).2.2=0∧0≤(Ph.getI s).1∧(Ph.getI s).1≤1099511627776 then
  (if (Ph.getI (s.drop (Ph.getI s).2.1)).2.2=0∧0≤(Ph.getI (s.drop (Ph.getI s).2.1)).1∧(Ph.getI (s.drop (Ph.getI s).2.1)).1≤(Ph.getI s).1∧(Ph.getI (s.drop (Ph.getI s).2.1)).1≤s.length then
   some ((Ph.getI s).1,(Ph.getI (s.drop (Ph.getI s).2.1)).1.toNat,s.drop ((Ph.getI s).2.1+(Ph.getI (s.drop (Ph.getI s).2.1)).2.1)) else none)
 else none
def eZ (s:List UInt8):Option dU:=
 match kM s with
 |none=>none
 |some (ix,n,t)=>
  match jY n fT [] t with
  |none=>none
  |some (f,rs)=>if jI ⟨ix,f,rs⟩=s then some ⟨ix,f,rs⟩ else none
structure aAn (t:dU):Prop where
 play:wD fT t.rows t.f
 ok:∀r∈t.rows,jH r
 ix:(t.rows.length:Int)≤t.ix∧t.ix≤1099511627776
 len:t.rows.length≤100000
theorem aFr (s:List UInt8):s.length<(Ph.putT s).length:=by
 unfold Ph.putT
 rw [List.length_append]
 have:0<(Ph.putI (s.length:Int)).length:=List.length_pos_iff.2 (Ph.putI_ne_nil _)
 omega
theorem wI {f:dV} {b:cR} (h:iZ f b=true):dP b=true:=by
 unfold iZ at h
 exact (Bool.and_eq_true_iff.1 h).1
theorem aAo:∀(rows:List cD) (f f':dV) (rs:List cD) (t:List UInt8),wD f rows f'→(∀r∈rows,jH r)→jY rows.length f rs (rows.flatMap dX ++ t)=some (f',rs ++ rows)
 | [],f,f',rs,t,h,_=>by
  have h:f=f':=h
  subst h
  simp [jY]
 |r::rows,f,f',rs,t,⟨h1,h2,h3⟩,hok=>by
  have hm:dP r.b=true:=(wI (r6 h1).1)
  have hbo:=hok r (by simp)
  have h12:(cT r.b).length≤1200:=(mI hm).2.2.2.2
  have hg:=Ph.getT_putT (cT r.b) (rows.flatMap dX ++ t) (by omega)
  have hd:decode (cT r.b)=some (r.b.c,r.b.q,r.b.l):=aFn hm hbo.b.ops
  have e:(r::rows).flatMap dX ++ t=Ph.putT (cT r.b) ++ (rows.flatMap dX ++ t):=by
   simp [dX]
  rw [e]
  have hb:lO (r.b.c,r.b.q,r.b.l)=r.b:=rfl
  show (match (Ph.getT (Ph.putT (cT r.b) ++ (rows.flatMap dX ++ t))).2.2 == 0,decode (Ph.getT (Ph.putT (cT r.b) ++ (rows.flatMap dX ++ t))).1 with
   |true,some p=>_
   |_,_=>_)=_
  rw [hg]
  simp only [hd,hb,beq_self_eq_true,h1,h2]
  rw [List.drop_left,aAo rows _ f' _ t h3 fun q hq=>hok q (by simp [hq])]
  simp
theorem aFs (ix:Int) (n:Nat) (t:List UInt8) (h1:(n:Int)≤ix) (h2:ix≤1099511627776) (h3:n≤t.length):kM (Ph.putI ix ++ (Ph.putI (n:Int) ++ t))=some (ix,n,t):=by
 have g1:=Ph.getI_putI ix (Ph.putI (n:Int) ++ t) (by omega) (by omega)
 have g2:=Ph.getI_putI (n:Int) t (by omega) (by omega)
 unfold kM
 rw [g1]
 simp only [List.drop_left]
 rw [g2]
 simp only
 rw [if_pos ⟨by trivial,by omega,h2⟩,if_pos ⟨by trivial,by omega,h1,by simp only [List.length_append];omega⟩,←List.drop_drop,List.drop_left,List.drop_left]
 simp
theorem aAp:∀rows:List cD,rows.length≤(rows.flatMap dX).length
 | []=>by simp
 |r::rows=>by
  have h:=aAp rows
  have h2:=aFr (cT r.b)
  simp only [List.flatMap_cons,List.length_append,List.length_cons]
  unfold dX
  unfold dX at h
  omega
theorem aFt {t:dU} (h:aAn t):eZ (jI t)=some t:=by
 unfold eZ jI
 rw [aFs _ _ _ h.ix.1 h.ix.2 (aAp _)]
 have:=aAo t.rows fT t.f [] [] h.play h.ok
 rw [List.append_nil,List.nil_append] at this
 simp only [this]
 rw [if_pos (by trivial)]
def eT (b:List UInt8):(Int×Int×List OpD)×Int:=match decode b with|none=>((0,0,[]),1)|some p=>(p,0)
theorem aFu {n:Int} {l:List OpD} {s:List UInt8×Bool} (h0:0<n) (h1:s.2=false) (h2:l.length≤8):fM (10 - l.length) n l s=fM (10 - (l.length+1)) (n - 1) (l ++ [(dQ s).1]) (dQ s).2:=by
 rw [show 10 - l.length=(10 - (l.length+1))+1 by omega,fM,if_pos ⟨h0,h1,h2⟩]
theorem aFv {n:Int} {l:List OpD} {s:List UInt8×Bool} (h:(decide (n > 0) && !s.2 && decide ((l.length:Int)≤8))=false) (f:Nat):fM f n l s=(l,s):=by
 cases f with
 |zero=>rfl
 |succ f=>
  rw [fM,if_neg]
  rintro ⟨h0,h1,h2⟩
  rw [h1] at h
  simp at h
  omega
structure aFw where
 n:Int
 v:Value
 l:List OpD
 sv:Value
 s:List UInt8×Bool
set_option maxRecDepth 10000 in
theorem aFx (b:List UInt8) (sv:Value) (w:World) (hb:b.length≤1000000) (r:RdB w sv b) (hT:Tabs w):
  Calls Tryz.prog 158 ⟨[sv]⟩ w fun e w'=>∃ad cap,e= .returned (.tuple #[.agg ⟨[.int .i64 (eT b).1.1,.int .i64 (eT b).1.2.1,.slice ad (eT b).1.2.2.length cap]⟩,.int .i64 (eT b).2])∧Has 0 w w' (Sx.Own 55 9 (.slice ad (eT b).1.2.2.length cap) (eT b).1.2.2.length ((eT b).1.2.2.flatMap bT)::Old w 0:: []):=by
 have hw:=Has.start (G:=0) (w:=w) (Nat.zero_le _)
 have hok:=aAl b hb
 obtain ⟨sad,scap,rfl⟩:∃ad cap,sv= .slice ad b.length cap:=by obtain ⟨_,ad,cap,e,_⟩:=r;exact ⟨ad,cap,e⟩
 refine enter Tryz.func158 Tryz.ntmps158 rfl rfl fun a hs=>?_
 repeat (first|(refine sxv hs hw ?_;clear hs;intro a hs)|refine sxc hs ?_|(refine sxa hs hw ?_;clear hs hw;intro a b W hw hs)|(refine sxs hs hw ?_;clear hs hw;intro W hs hw))
 obtain ⟨bp,q1⟩:=nm1 hw;subst q1
 obtain ⟨b0,q2⟩:=nm2 hw;subst q2
 have hw:Has 0 w _ (aA bp [.slice sad b.length scap,.bool (b,false).2] 312::aA b0 [.int .i64 0,.int .i64 0,.slice none 0 0] 66::Old w 0:: []):=hw
 refine aF hs (hc:=pI w _ bp _ (b,false) _ (In.tl In.hd) r hw) (k:=?_);rintro e0 W1 ⟨rfl,sv1,r1,hw'⟩;refine ⟨_,rfl,?_⟩;clear hs hw;intro a hs
 have hw:=hw';clear hw'
 rw [show tk (b,false) (Ph.getI (b,false).1).2.1 (Ph.getI (b,false).1).2.2=bH (b,false) from rfl] at hw r1
 repeat (first|(refine sxv hs hw ?_;clear hs;intro a hs)|refine sxc hs ?_|(refine sxa hs hw ?_;clear hs hw;intro a b W hw hs)|(refine sxs hs hw ?_;clear hs hw;intro W hs hw))
 obtain ⟨bx,q3⟩:=nm1 hw;subst q3
 have hw:=hw.swap2
 refine aF hs (hc:=pI w _ bp sv1 (bH (b,false)) _ (In.tl (In.tl In.hd)) r1 hw) (k:=?_);rintro e0 W1 ⟨rfl,sv2,r2,hw'⟩;refine ⟨_,rfl,?_⟩;clear hs hw;intro a hs
 have hw:=hw';clear hw'
 rw [show tk (bH (b,false)) (Ph.getI (bH (b,false)).1).2.1 (Ph.getI (bH (b,false)).1).2.2=bH (bH (b,false)) from rfl] at hw r2
 refine zB hs hw ?_;clear hs hw;intro a W hs hw
 refine aF hs (hc:=pI w _ bp sv2 (bH (bH (b,false))) _ (In.tl (In.tl In.hd)) r2 hw) (k:=?_);rintro e0 W1 ⟨rfl,sv3,r3,hw'⟩;refine ⟨_,rfl,?_⟩;clear hs hw;intro a hs
 have hw:=hw';clear hw'
 rw [show tk (bH (bH (b,false))) (Ph.getI (bH (bH (b,false))).1).2.1 (Ph.getI (bH (bH (b,false))).1).2.2=bH (bH (bH (b,false))) from rfl] at hw r3
 refine zA hs hw ?_;clear hs;intro a hs
 have hN:=nK (bH (bH (b,false))).1
 have hdec:kL b=(((Ph.getI (b,false).1).1,(Ph.getI (bH (b,false)).1).1,(fM 10 (Ph.getI (bH (bH (b,false))).1).1 [] (bH (bH (bH (b,false))))).1),(fM 10 (Ph.getI (bH (bH (b,false))).1).1 [] (bH (bH (bH (b,false))))).2):=rfl
 clear r1 r2
 generalize (Ph.getI (bH (bH (b,false))).1).1=N at *
 generalize bH (bH (bH (b,false)))=s3 at *
 generalize (Ph.getI (bH (b,false)).1).1=q at *
 generalize (Ph.getI (b,false).1).1=c at *
 replace hw:=(hw.nilOwn 55 9).swap2
 have hw:Has 0 w W1 (aA bp [sv3,.bool s3.2] 312::Sx.Own 55 9 (.slice none 0 0) ([]:List OpD).length (([]:List OpD).flatMap bT)::aA bx [.int .i64 c,.int .i64 q,.slice none 0 0] 66::aA b0 [.int .i64 0,.int .i64 0,.slice none 0 0] 66::Old w 0:: []):=hw
 refine bX (σ:=aFw) (fun t=>[(0,.slice sad b.length scap),(2,.pointer (some ⟨b0,0,none⟩)),(4,.pointer (some ⟨bp,0,none⟩)),(5,.pointer (some ⟨bx,0,none⟩)),(6,.int .i64 t.n)])
  (fun t=>aA bp [t.sv,.bool t.s.2] 312::Sx.Own 55 9 t.v t.l.length (t.l.flatMap bT)::aA bx [.int .i64 c,.int .i64 q,t.v] 66::aA b0 [.int .i64 0,.int .i64 0,.slice none 0 0] 66::Old w 0:: [])
  (fun t=>RdB w t.sv t.s.1∧i64 t.n∧t.l.length≤9∧fM (10 - t.l.length) t.n t.l t.s=fM 10 N [] s3) (fun t=>10 - t.l.length) ⟨N,.slice none 0 0,[],sv3,s3⟩ ⟨r3,hN,by simp,rfl⟩ hs ⟨rfl,rfl,rfl,rfl,rfl,trivial⟩ hw ?_
 clear hs hw r3 hN
 rintro ⟨n,v,l,sv,s⟩ a W ⟨hr,hn,hl,hrd⟩ hs hw
 simp only at hr hn hl hrd hs hw
 obtain ⟨vad,vcap,rfl⟩:∃ad cap,v= .slice ad l.length cap:=by
  obtain ⟨_,ad,cap,e,_⟩:=hw.rd_own (In.tl In.hd);exact ⟨ad,cap,e⟩
 refine sq ?_
 refine sq ?_
 refine fC (M:=fun a W=>Slots a 61 [(0,.slice sad b.length scap),(2,.pointer (some ⟨b0,0,none⟩)),(4,.pointer (some ⟨bp,0,none⟩)),(5,.pointer (some ⟨bx,0,none⟩)),(6,.int .i64 n),(33,.bool (decide (n > 0) && !s.2 && decide ((l.length:Int)≤8)))]∧Has 0 w W (aA bp [sv,.bool s.2] 312::Sx.Own 55 9 (.slice vad l.length vcap) l.length (l.flatMap bT)::aA bx [.int .i64 c,.int .i64 q,.slice vad l.length vcap] 66::aA b0 [.int .i64 0,.int .i64 0,.slice none 0 0] 66::Old w 0:: [])) ?_ ?_
 ·refine zA hs hw ?_;clear hs;intro a hs
  cases k0:decide (n > 0) with
  |false=>
   rw [k0] at hs
   refine zA hs hw ?_;clear hs;intro a hs
   exact ⟨hs.of ⟨rfl,rfl,rfl,rfl,rfl,rfl,trivial⟩,hw⟩
  |true=>
  rw [k0] at hs
  refine zA hs hw ?_;clear hs;intro a hs
  cases k1:s.2 with
  |true=>
   rw [k1] at hs hw
   refine zA hs hw ?_;clear hs;intro a hs
   exact ⟨hs.of ⟨rfl,rfl,rfl,rfl,rfl,rfl,trivial⟩,hw⟩
  |false=>
  rw [k1] at hs hw
  refine zA hs hw ?_;clear hs;intro a hs
  exact ⟨hs.of ⟨rfl,rfl,rfl,rfl,rfl,zM (by simp),trivial⟩,hw⟩
 clear hs hw
 rintro a W ⟨hs,hw⟩
 refine cI hs (kt:=fun hcc=>?_) (kf:=fun hcc=>?_)
 ·obtain ⟨h0,h1,h2⟩:0<n∧s.2=false∧l.length≤8:=by
   simp only [Bool.and_eq_true,decide_eq_true_eq,Bool.not_eq_true'] at hcc
   exact ⟨by omega,hcc.1.2,by omega⟩
  rw [aFu h0 h1 h2] at hrd
  replace hs:Slots a 61 [(0,.slice sad b.length scap),(2,.pointer (some ⟨b0,0,none⟩)),(4,.pointer (some ⟨bp,0,none⟩)),(5,.pointer (some ⟨bx,0,none⟩)),(6,.int .i64 n)]:=hs.of ⟨rfl,rfl,rfl,rfl,rfl,trivial⟩
  refine zG hs ?_
  have hw:Has 0 w W (aA bp [sv,.bool s.2] 312::Sx.Own 55 9 (.slice vad l.length vcap) l.length (l.flatMap bT)::bK::bK::aA bx [.int .i64 c,.int .i64 q,.slice vad l.length vcap] 66::aA b0 [.int .i64 0,.int .i64 0,.slice none 0 0] 66::Old w 0:: []):=hw.free.free.perm (((List.Perm.cons _ (List.Perm.swap _ _ _)).trans (List.Perm.swap _ _ _)).trans (List.Perm.cons _ ((List.Perm.cons _ (List.Perm.swap _ _ _)).trans (List.Perm.swap _ _ _))))
  refine fL (σ:=Value×Option Addr×Nat) (V:=fun u=>[.pointer (some ⟨bx,0+2,none⟩),.slice vad l.length vcap,.pointer (some ⟨bp,0,none⟩),.agg ⟨bT (dQ s).1⟩,.slice (some ⟨(u 4).2.2,0,none⟩) 1 1,.slice (u 5).2.1 (l.length+1) (u 5).2.2,.pointer (some ⟨bx,0+2,none⟩),.bool true])
   (Rs:=fun u D=>(if D 3 then aA bp [(u 3).1,.bool (dQ s).2.2] 312 else aA bp [sv,.bool s.2] 312)::(if D 5 then Sx.Own 55 9 (.slice (u 5).2.1 (l.length+1) (u 5).2.2) (l.length+1) (l.flatMap bT ++ bT (dQ s).1) else Sx.Own 55 9 (.slice vad l.length vcap) l.length (l.flatMap bT))::(if D 4 then aA (u 4).2.2 (bT (dQ s).1) 55 else bK)::(if D 3 then bN (RdB w (u 3).1 (dQ s).2.1) else bK)::(if D 7 then aA bx [.int .i64 c,.int .i64 q,.slice (u 5).2.1 (l.length+1) (u 5).2.2] 66 else aA bx [.int .i64 c,.int .i64 q,.slice vad l.length vcap] 66)::aA b0 [.int .i64 0,.int .i64 0,.slice none 0 0] 66::Old w 0:: []) (fun _=>(.bool true,none,0)) hs hw (hVu:=?vu_c) (ho:=⟨?_,?c1_c,?_,?c3_c,?c4_c,?c5_c,?_,?c7_c,trivial⟩) (k:=?k_c)
  case vu_c=>
   intro u u' j h
   rcases j with _|_|_|_|_|_|j
   all_goals first|rfl|simp [h]
  case c1_c=>
   intro u LD D a W hcl hi hp hs hw
   have h5:=Go.Sx.not_done hcl hi 5 (by kernel_rfl)
   have h7:=Go.Sx.not_done hcl h5 7 (by kernel_rfl)
   have hw0:=hw
   simp only [h7,Bool.false_eq_true,if_false] at hw
   refine zA hs hw ?_;clear hs;intro a hs
   exact Or.inl ⟨hs,hw0⟩
  case c3_c=>
   intro u LD D a W hcl hi hp hs hw
   have h4:=Go.Sx.not_done hcl hi 4 (by kernel_rfl)
   have h5:=Go.Sx.not_done hcl h4 5 (by kernel_rfl)
   have h7:=Go.Sx.not_done hcl h5 7 (by kernel_rfl)
   simp only [hi,h4,h5,h7,Bool.false_eq_true,if_false] at hw
   refine aF hs (hc:=aFh w _ bp sv s _ (by repeat (first|exact In.hd|apply In.tl)) hr hT hw) (k:=?_);rintro e0 W1 ⟨rfl,sv2,r2,hw'⟩;refine ⟨_,rfl,?_⟩;clear hs hw;intro a hs
   refine zG hs ?_
   refine Or.inr ⟨(sv2,none,0),hs,?_⟩
   show Has 0 w _ (_::(if (Nat.beq 5 3 || D 5)=true then _ else _)::(if (Nat.beq 4 3 || D 4)=true then _ else _)::_::(if (Nat.beq 7 3 || D 7)=true then _ else _)::_)
   rw [h4,h5,h7]
   exact (hw'.fact r2).fill (Upd.tl (Upd.tl (Upd.tl Upd.hd)))
  case c4_c=>
   intro u LD D a W hcl hi hp hs hw
   have h3:=Go.Sx.done hp 3 (by kernel_rfl)
   have h5:=Go.Sx.not_done hcl hi 5 (by kernel_rfl)
   have h7:=Go.Sx.not_done hcl h5 7 (by kernel_rfl)
   simp only [hi,h3,h5,h7,Bool.false_eq_true,if_false,if_true] at hw
   repeat (first|(refine sxv hs hw ?_;clear hs;intro a hs)|refine sxc hs ?_|(refine sxa hs hw ?_;clear hs hw;intro a b W hw hs)|(refine sxs hs hw ?_;clear hs hw;intro W hs hw))
   refine Or.inr ⟨(.bool true,none,_),hs,?_⟩
   show Has 0 w _ ((if (Nat.beq 3 4 || D 3)=true then _ else _)::(if (Nat.beq 5 4 || D 5)=true then _ else _)::_::(if (Nat.beq 3 4 || D 3)=true then _ else _)::(if (Nat.beq 7 4 || D 7)=true then _ else _)::_)
   rw [h3,h5,h7]
   exact hw.fill (Upd.tl (Upd.tl Upd.hd))
  case c5_c=>
   intro u LD D a W hcl hi hp hs hw
   have h4:=Go.Sx.done hp 4 (by kernel_rfl)
   have h7:=Go.Sx.not_done hcl hi 7 (by kernel_rfl)
   simp only [hi,h4,h7,Bool.false_eq_true,if_false,if_true] at hw
   refine rH hs hw (k:=l.length) (h63:=by omega) (hb:=by omega) (c:=?_)
   clear hs hw;intro a ad cap W hs hw
   refine zG hs ?_
   refine Or.inr ⟨(.bool true,ad,cap),hs,?_⟩
   show Has 0 w _ (_::_::(if (Nat.beq 4 5 || D 4)=true then _ else _)::_::(if (Nat.beq 7 5 || D 7)=true then _ else _)::_)
   rw [h4,h7]
   exact hw
  case c7_c=>
   intro u LD D a W hcl hi hp hs hw
   have h5:=Go.Sx.done hp 5 (by kernel_rfl)
   simp only [hi,h5,Bool.false_eq_true,if_false,if_true] at hw
   repeat (first|(refine sxv hs hw ?_;clear hs;intro a hs)|refine sxc hs ?_|(refine sxa hs hw ?_;clear hs hw;intro a b W hw hs)|(refine sxs hs hw ?_;clear hs hw;intro W hs hw))
   refine Or.inl ⟨hs,?_⟩
   show Has 0 w _ (_::(if (Nat.beq 5 7 || D 5)=true then _ else _)::_::_::_::_)
   rw [h5]
   exact hw
  case k_c=>
   clear hs hw
   intro u a W hs hw
   replace hw:Has 0 w W (aA bp [(u 3).1,.bool (dQ s).2.2] 312::Sx.Own 55 9 (.slice (u 5).2.1 (l.length+1) (u 5).2.2) (l.length+1) (l.flatMap bT ++ bT (dQ s).1)::aA (u 4).2.2 (bT (dQ s).1) 55::bN (RdB w (u 3).1 (dQ s).2.1)::aA bx [.int .i64 c,.int .i64 q,.slice (u 5).2.1 (l.length+1) (u 5).2.2] 66::aA b0 [.int .i64 0,.int .i64 0,.slice none 0 0] 66::Old w 0:: []):=hw
   have hr':=hw.told (In.tl (In.tl (In.tl In.hd)))
   replace hw:=hw.sub (L':=aA bp [(u 3).1,.bool (dQ s).2.2] 312::Sx.Own 55 9 (.slice (u 5).2.1 (l.length+1) (u 5).2.2) (l.length+1) (l.flatMap bT ++ bT (dQ s).1)::aA bx [.int .i64 c,.int .i64 q,.slice (u 5).2.1 (l.length+1) (u 5).2.2] 66::aA b0 [.int .i64 0,.int .i64 0,.slice none 0 0] 66::Old w 0:: []) (List.Sublist.cons_cons _ (List.Sublist.cons_cons _ (List.Sublist.cons _ (List.Sublist.cons _ (List.Sublist.refl _)))))
   replace hs:Slots a 61 [(0,.slice sad b.length scap),(2,.pointer (some ⟨b0,0,none⟩)),(4,.pointer (some ⟨bp,0,none⟩)),(5,.pointer (some ⟨bx,0,none⟩)),(6,.int .i64 n)]:=hs.of ⟨rfl,rfl,rfl,rfl,rfl,trivial⟩
   generalize (u 3).1=sv2 at *
   generalize (u 5).2.1=ad2 at *
   generalize (u 5).2.2=cap2 at *
   clear u
   refine zA hs hw ?_;clear hs;intro a hs
   have e1:IntKind.i64.wrap (n - 1)=n - 1:=nJ (by have:=hn.1;omega) (by have:=hn.2;omega)
   rw [e1] at hs
   have e2:l.length+1=(l ++ [(dQ s).1]).length:=by simp
   have e3:l.flatMap bT ++ bT (dQ s).1=(l ++ [(dQ s).1]).flatMap bT:=by simp
   rw [e2,e3] at hw
   rw [e2] at hrd
   exact bR ⟨n - 1,_,l ++ [(dQ s).1],sv2,(dQ s).2⟩ hs hw ⟨hr',⟨by have:=hn.1;show _≤n - 1;omega,by have:=hn.2;show n - 1≤_;omega⟩,by simp;omega,hrd⟩ (by simp only [List.length_append,List.length_singleton];omega) ⟨rfl,rfl,rfl,rfl,rfl,trivial⟩
  all_goals
   intro u LD D a W hcl hi hp hs hw
   refine zA hs hw ?_;clear hs;intro a hs
   exact Or.inl ⟨hs,hw⟩
 ·rw [aFv hcc] at hrd
  rw [←hrd] at hdec
  clear hrd
  rw [hdec] at hok
  obtain ⟨hc,hq, -,ho⟩:=hok
  simp only at hc hq ho
  have hD:∀p:Prop,(s.2=false∧dM c q l=true∧d9 c q l=b↔p)→((p→eT b=((c,q,l),0))∧(¬p→eT b=((0,0,[]),1))):=fun p hp=>by
   constructor
   ·intro h
    have:decode b=some (c,q,l):=by unfold decode;simp only [hdec];rw [if_pos (hp.2 h)]
    unfold eT;rw [this]
   ·intro h
    have:decode b=none:=by unfold decode;simp only [hdec];rw [if_neg fun k=>h (hp.1 k)]
    unfold eT;rw [this]
  have hZ:=(hD _ Iff.rfl).2
  have hY:=(hD _ Iff.rfl).1
  clear hD hdec
  refine zA hs hw ?_;clear hs;intro a hs
  refine aF hs (hc:=pD c q l _ _ hc hq ho (hw.rd_own (In.tl In.hd)) (hT.keep (hw.end (by repeat (first|exact In.hd|apply In.tl))))) (k:=?_);rintro e0 W1 ⟨ad,cap,rfl,hnil,hw1⟩;refine ⟨_,rfl,?_⟩;clear hs;intro a hs;replace hw:=hw.call hw1;clear hw1
  refine zA hs hw ?_;clear hs;intro a hs
  cases k1:s.2 with
  |true=>
   rw [k1] at hs hw
   refine zB hs hw ?_;clear hs hw;intro a W hs hw
   refine rc2 hs rfl rfl hw (In.tl (In.tl (In.tl (In.tl In.hd)))) rfl rfl ?_
   rw [hZ (by rw [k1];simp)]
   exact ⟨none,0,rfl,(hw.nilOwn 55 9).sub (List.Sublist.cons_cons _ (List.Sublist.cons _ (List.Sublist.cons _ (List.Sublist.cons _ (List.Sublist.cons _ (List.Sublist.cons _ (List.Sublist.refl _)))))))⟩
  |false=>
  rw [k1] at hs hw
  refine zA hs hw ?_;clear hs;intro a hs
  cases hm:dM c q l with
  |false=>
   obtain ⟨rfl,rfl⟩:=hnil hm
   refine kE hs (c:=?_);clear hs;intro a hs
   refine zB hs hw ?_;clear hs hw;intro a W hs hw
   refine rc2 hs rfl rfl hw (In.tl (In.tl (In.tl (In.tl In.hd)))) rfl rfl ?_
   rw [hZ (by rw [hm];simp)]
   exact ⟨none,0,rfl,(hw.nilOwn 55 9).sub (List.Sublist.cons_cons _ (List.Sublist.cons _ (List.Sublist.cons _ (List.Sublist.cons _ (List.Sublist.cons _ (List.Sublist.cons _ (List.Sublist.refl _)))))))⟩
  |true=>
  rw [hm] at hs hw
  simp only [if_true] at hs hw
  obtain ⟨A,rfl⟩:∃A,ad=some A:=by
   obtain ⟨_,ad',cap',e,_,_,h|⟨g,o,h,_⟩⟩:=hw.rd_own In.hd
   ·have:=aFG c q l;omega
   ·injection e with e1 _ _;exact ⟨_,e1.trans h⟩
  refine kE hs (c:=?_);clear hs;intro a hs
  rw [show (some A).isNone=false from rfl] at hs
  refine zA hs hw ?_;clear hs;intro a hs
  refine aF hs (hc:=aA4 (d9 c q l) b _ _ _ (hw.rd_own In.hd) (hw.rd (by repeat (first|exact In.hd|apply In.tl)) hw.ext.size r)) (k:=?_);rintro e0 W1 ⟨rfl,hb⟩;refine ⟨_,rfl,?_⟩;clear hs;intro a hs;replace hw:=hw.below hb;clear hb
  cases he:(d9 c q l == b) with
  |false=>
   rw [he] at hs
   refine zB hs hw ?_;clear hs hw;intro a W hs hw
   refine rc2 hs rfl rfl hw (In.tl (In.tl (In.tl (In.tl In.hd)))) rfl rfl ?_
   rw [hZ (by rw [beq_eq_false_iff_ne] at he;exact fun h=>he h.2.2)]
   exact ⟨none,0,rfl,(hw.nilOwn 55 9).sub (List.Sublist.cons_cons _ (List.Sublist.cons _ (List.Sublist.cons _ (List.Sublist.cons _ (List.Sublist.cons _ (List.Sublist.cons _ (List.Sublist.refl _)))))))⟩
  |true=>
   rw [he] at hs
   refine zB hs hw ?_;clear hs hw;intro a W hs hw
   refine rc2 hs rfl rfl hw (In.tl (In.tl (In.tl (In.tl In.hd)))) rfl rfl ?_
   rw [hY ⟨k1,hm,by simpa using he⟩]
   exact ⟨_,_,rfl,hw.sub (List.Sublist.cons _ (List.Sublist.cons _ (List.Sublist.cons_cons _ (List.Sublist.cons _ (List.Sublist.cons _ (List.Sublist.refl _))))))⟩
end Go.Proofs.YtgpbngfehfbndaaGreatDoor.Sw
namespace Go.Sx
theorem Has.rd_lit {G:Nat} {w W:World} {R:List Res} {E:TypeId} {b n size:Nat} {cs:List Value} (h:Has G w W R) (i:In (aA b cs E) R) (hl:cs.length=n*size) (hn:n≤9223372036854775807):Rd W size (.slice (some ⟨b,0,none⟩) n n) n cs:=by
 have hb:=(h.block i).1
 refine ⟨hl,_,_,rfl,Nat.le_refl _,hn,.inr ⟨b,0,rfl,(h.block i).2.2,fun j x hx=>?_⟩⟩
 rw [hC hb]
 simpa using hx
end Go.Sx
namespace Go.Proofs.YtgpbngfehfbndaaGreatDoor.Sw
open Go.RowKit Go.Sx
theorem wJ (b:List UInt8) (c q:Int) (l:List OpD) (err:Int) (h:eT b=((c,q,l),err)) (sv:Value) (w:World) (hb:b.length≤1000000) (r:RdB w sv b) (hT:Tabs w):
  Calls Tryz.prog 158 ⟨[sv]⟩ w fun e w'=>∃ad cap,e= .returned (.tuple #[.agg ⟨[.int .i64 c,.int .i64 q,.slice ad l.length cap]⟩,.int .i64 err])∧Has 0 w w' (Sx.Own 55 9 (.slice ad l.length cap) l.length (l.flatMap bT)::Old w 0:: []):=by
 have:=aFx b sv w hb r hT
 rw [h] at this
 exact this
end Go.Proofs.YtgpbngfehfbndaaGreatDoor.Sw
namespace Go.Sx
open Go.RowKit
def eM (b:Nat) (cs:List Value) (T:TypeId):Res where
 ok F W:=F b∧W.heap[b]? =some (.cells ⟨cs⟩ T (cs.length,cs.length+1))
 loc F W W' h:=fun ⟨h1,h2⟩=>⟨h1,(h b h1).trans h2⟩
section
variable {P:Program} {ops:Array Oper} {aD:List Oper} {Q:Exit→Act→World→Prop} {a:Act} {n G:Nat} {L:List (Nat×Value)} {w W W':World} {R R':List Res} {d b:Nat} {T S S' E:TypeId} {p:String} {e:Array Edge} {x y:Operand} {v:Value} {cs cs':List Value} {s:ByteArray} {l:List UInt8}
theorem Has.blockM {R0:List Res} (h:Has G w W R0) (i:In (eM b cs E) R0):W.heap[b]? =some (.cells ⟨cs⟩ E (cs.length,cs.length+1))∧G≤b∧b<W.heap.size:=by
 obtain ⟨F,h1,h2⟩:=h.of_in i
 exact ⟨h2.2,h1 b h2.1⟩
theorem aAq {fr:Nat×Nat} (h:W.heap[b]? =some (.cells ⟨cs⟩ E fr)) (j:Nat):W.cell? ⟨b,j,none⟩=cs[j]?:=by
 unfold World.cell?
 rw [h]
 simp
theorem nL [t:StrTy P S] [sl:Sl P S' E] [u:IntTy P E .u8] (hs:Slots a n L) (hw:Has G w W R) (hl:s.size≤1000000000) (hx:ev L x=some (.string s):=by with_unfolding_all exact rfl) (hd:Nat.blt d n=true:=by with_unfolding_all exact rfl)
  (c:∀a' b cap ext W',Has G w W' (eM b (bys s.data.toList ++ ext) E::R)→RdB W' (.slice (some ⟨b,0,none⟩) s.data.toList.length cap) s.data.toList→Slots a' n ((d,.slice (some ⟨b,0,none⟩) s.data.toList.length cap)::L)→wpList P ops Q aD a' W'):wpList P ops Q (⟨some d,.convert S S' x,T,p,e,none⟩::aD) a W:=by
 have hr:=run_bytes_of_string W S S' E s t.out sl.out u.out
 have hge:s.size≤grownCap W s.size 0 E:=grownCap_ge W s.size 0 E
 have hcm:grownCap W s.size 0 E≤maxLen:=grownCap_le_maxLen W s.size 0 E (by unfold maxLen;omega)
 generalize grownCap W s.size 0 E=cap at *
 have hsz:s.data.toList.length=s.size:=by rw [Array.length_toList];rfl
 have hrow:bytesRow s cap=⟨bys s.data.toList ++ List.replicate (cap - s.size) (Value.int .u8 0)⟩:=by
  unfold bytesRow bys
  apply Array.toList_inj.1
  simp
 rw [hrow] at hr
 have hnew:=heap_alloc_new W.drew (.cells ⟨bys s.data.toList ++ List.replicate (cap - s.size) (Value.int .u8 0)⟩ E ((bys s.data.toList ++ List.replicate (cap - s.size) (Value.int .u8 0)).length,(bys s.data.toList ++ List.replicate (cap - s.size) (Value.int .u8 0)).length+1))
 refine bO hs hd (v:= .slice (some ⟨W.heap.size,0,none⟩) s.data.toList.length cap) (W':=W.drew.alloc (.cells ⟨bys s.data.toList ++ List.replicate (cap - s.size) (Value.int .u8 0)⟩ E ((bys s.data.toList ++ List.replicate (cap - s.size) (Value.int .u8 0)).length,(bys s.data.toList ++ List.replicate (cap - s.size) (Value.int .u8 0)).length+1))) ?_ fun a' hs'=>c a' W.heap.size cap (List.replicate (cap - s.size) (Value.int .u8 0)) _ ((hw.below (Below.refl _ _).drew).newObj ⟨rfl,hnew⟩) ?_ hs'
 ·simp only [execOp,hs.ev hx,Sem.run_bind,hr,Result.andThen_ok,hsz]
  rfl
 ·refine ⟨by simp,some ⟨W.heap.size,0,none⟩,cap,rfl,by omega,by unfold maxLen at hcm;omega,.inr ⟨W.heap.size,0,rfl,jA hnew,fun j u hj=>?_⟩⟩
  have hnew':(W.drew.alloc (.cells ⟨bys s.data.toList ++ List.replicate (cap - s.size) (Value.int .u8 0)⟩ E ((bys s.data.toList ++ List.replicate (cap - s.size) (Value.int .u8 0)).length,(bys s.data.toList ++ List.replicate (cap - s.size) (Value.int .u8 0)).length+1))).heap[W.heap.size]? =_:=hnew
  rw [aAq hnew',Nat.zero_add]
  have hj2:=(List.getElem?_eq_some_iff.1 hj).1
  rw [List.getElem?_append_left hj2];exact hj
end
end Go.Sx
