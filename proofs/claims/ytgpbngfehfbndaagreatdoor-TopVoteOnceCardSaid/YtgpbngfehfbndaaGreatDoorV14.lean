import Derived.Test.YtgpbngfehfbndaaGreatDoorV13
set_option maxHeartbeats 16000000
set_option linter.all false
set_option maxRecDepth 10000
namespace Go.Proofs.YtgpbngfehfbndaaGreatDoor.Sw
open Go.RowKit Go.Sx
def i9 (f:dZ) (bt:cT):Bool:=dS bt && (bt.q == IntKind.i64.wrap (cN f bt.c+1))
def dR (f:dZ) (bt:cT):cC:=⟨IntKind.i64.wrap (f.place+1),bt,(fE f.d bt.l).1⟩
def nP (f:dZ) (bt:cT):dZ:=⟨IntKind.i64.wrap (f.place+1),(fE f.d bt.l).2,f.told.set bt.c.toNat (bt.q,dR f bt)⟩
def next (f:dZ) (bt:cT):dZ×cC×Bool:=match i9 f bt with|true=>(nP f bt,dR f bt,true)|false=>(f,zeroRow,false)
theorem wF {bt:cT} (h:dS bt=true):(1≤bt.c∧bt.c≤5)∧(1≤bt.q∧bt.q≤1099511627776)∧bt.l.length≤8:=by
 obtain ⟨h1,h2,h3,_⟩:=mK h;exact ⟨h1,h2,h3.2⟩
theorem wG (w0 W:World) (H:Fh) (p:Nat) (f:dZ) (bt:cT) (sv:Value) (R:List Res) (hb:iK bt) (hr:cG H sv bt.l) (hH:(fr w0).le H) (hT:Tabs w0) (hw:Has 0 w0 W (aU H p f::Fz H::R)):
  Calls Tryz.prog 159 ⟨[.pointer (some ⟨p,0,none⟩),.agg ⟨aK bt sv⟩]⟩ W fun e W'=>∃sv' H',e= .returned (.tuple ⟨[.agg ⟨aI (next f bt).2.1 sv'⟩,.bool (next f bt).2.2]⟩)∧H.le H'∧cG H' sv' (next f bt).2.1.b.l∧Has 0 w0 W' (aU H' p (next f bt).1::Fz H'::R):=by
 obtain ⟨sad,scap,rfl⟩:=hr.slice;refine en Tryz.func159 Tryz.ntmps159 fun a hs=>?_
 repeat (first|(refine sxv hs hw ?_;clear hs;intro a hs)|refine sxc hs ?_|(refine sxa hs hw ?_;clear hs hw;intro a b W hw hs)|(refine sxs hs hw ?_;clear hs hw;intro W hs hw))
 obtain ⟨b4,q4⟩:=nm1 hw;subst q4;obtain ⟨b3,q3⟩:=nm2 hw;subst q3;have hw:Has 0 w0 _ (aU H p f::aA b4 zrc 68::aA b3 (aK bt (.slice sad bt.l.length scap)) 66::Fz H::R):=hw.pm;cases hm:dS bt with
 |false=>
  have hN:next f bt=(f,zeroRow,false):=by unfold next i9;rw [hm];rfl
  rw [hN];refine gS (V:=[.pointer (some ⟨p,0,none⟩),.bool false,.bool false,.agg ⟨aK bt (.slice sad bt.l.length scap)⟩,.bool false,.bool true,.bool true,.bool true,undef,undef,undef,undef,undef,undef,undef,undef,.bool true])
   (Rs:=fun D=>aU H p f::aA b4 zrc 68::aA b3 (aK bt (.slice sad bt.l.length scap)) 66::Fz H::R) hs hw (ho:=⟨?_,?_,?_,?_,?c4_1,?_,?_,?_,?_,?_,?_,?_,?_,?_,?_,?_,?_,trivial⟩) (k:=?k_1)
  case c4_1=>
   intro LD D a W hcl hi hp hs hw;refine zG hs ?_;refine aH hs (hc:=r6 bt.c bt.q bt.l _ _ hb.c hb.q hb.ops (hw.rdH inn hr) (hT.keep (hw.endF inn hH))) (k:=?_);rintro e0 W1 ⟨rfl,hb⟩;refine ⟨_,rfl,?_⟩;clear hs;intro a hs;replace hw:=hw.below hb;clear hb;rw [show dO bt.c bt.q bt.l=dS bt from rfl,hm] at hs;refine zG hs ?_;exact ⟨hs,hw⟩
  case k_1=>
   clear hs hw;intro a W hs hw;refine zB hs hw ?_;clear hs hw;intro a W hs hw;refine rc2 hs rfl rfl hw (In.tl In.hd) rfl rfl ?_;exact ⟨.slice none 0 0,H,rfl,Fh.le.refl _,j6 H,hw.sub (List.Sublist.cons_cons _ (List.Sublist.cons _ (List.Sublist.cons _ (List.Sublist.refl _))))⟩
  all_goals
   intro LD D a W hcl hi hp hs hw;refine zC hs hw ?_;clear hs;intro a hs;exact ⟨hs,hw⟩
 |true=>
 obtain ⟨⟨hc1,hc5⟩,⟨hq1,hq2⟩,hl8⟩:=wF hm;refine gS (V:=[.pointer (some ⟨p,0,none⟩),.bool false,.bool false,.agg ⟨aK bt (.slice sad bt.l.length scap)⟩,.bool true,.bool false,.bool false,.bool false,.pointer (some ⟨b3,0+1,none⟩),.int .i64 bt.q,.pointer (some ⟨p,0,none⟩),.pointer (some ⟨b3,0+0,none⟩),.int .i64 bt.c,.int .i64 (cN f bt.c),.int .i64 (IntKind.i64.wrap (cN f bt.c+1)),.bool (bt.q !=IntKind.i64.wrap (cN f bt.c+1)),.bool (bt.q !=IntKind.i64.wrap (cN f bt.c+1))])
  (Rs:=fun D=>aU H p f::aA b4 zrc 68::aA b3 (aK bt (.slice sad bt.l.length scap)) 66::Fz H::R) hs hw (ho:=⟨?_,?_,?_,?_,?c4_2,?_,?_,?_,?_,?_,?_,?_,?_,?c13_2,?_,?_,?_,trivial⟩) (k:=?k_2)
 case c4_2=>
  intro LD D a W hcl hi hp hs hw;refine zG hs ?_;refine aH hs (hc:=r6 bt.c bt.q bt.l _ _ hb.c hb.q hb.ops (hw.rdH inn hr) (hT.keep (hw.endF inn hH))) (k:=?_);rintro e0 W1 ⟨rfl,hb⟩;refine ⟨_,rfl,?_⟩;clear hs;intro a hs;replace hw:=hw.below hb;clear hb;rw [show dO bt.c bt.q bt.l=dS bt from rfl,hm] at hs;refine zG hs ?_;exact ⟨hs,hw⟩
 case c13_2=>
  intro LD D a W hcl hi hp hs hw;refine zG hs ?_;refine aH hs (hc:=r9 w0 _ H p f bt.c _ hw) (k:=?_);rintro e0 W1 ⟨rfl,hw1⟩;refine ⟨_,rfl,?_⟩;clear hs hw;intro a hs;have hw:=hw1;clear hw1;refine zG hs ?_;exact ⟨hs,hw⟩
 case k_2=>
  clear hs hw;intro a W hs hw;replace hw:Has 0 w0 W (aU H p f::aA b4 zrc 68::aA b3 (aK bt (.slice sad bt.l.length scap)) 66::Fz H::R):=hw;replace hs:Slots a 58 [(0,.pointer (some ⟨p,0,none⟩)),(3,.pointer (some ⟨b3,0,none⟩)),(4,.pointer (some ⟨b4,0,none⟩)),(5,.bool false),(23,.bool (bt.q !=IntKind.i64.wrap (cN f bt.c+1)))]:=hs.ot;refine zG hs ?_;cases hq:(bt.q !=IntKind.i64.wrap (cN f bt.c+1)) with
  |true=>
   have hN:next f bt=(f,zeroRow,false):=by
    unfold next i9;have:(bt.q == IntKind.i64.wrap (cN f bt.c+1))=false:=by simpa using hq
    rw [hm,this];rfl
   rw [hN];rw [hq] at hs;refine zB hs hw ?_;clear hs hw;intro a W hs hw;refine rc2 hs rfl rfl hw (In.tl In.hd) rfl rfl ?_;exact ⟨.slice none 0 0,H,rfl,Fh.le.refl _,j6 H,hw.sub (List.Sublist.cons_cons _ (List.Sublist.cons _ (List.Sublist.cons _ (List.Sublist.refl _))))⟩
  |false=>
  have hN:next f bt=(nP f bt,dR f bt,true):=by
   unfold next i9;have:(bt.q == IntKind.i64.wrap (cN f bt.c+1))=true:=by simpa using hq
   rw [hm,this];rfl
  rw [hN];rw [hq] at hs;obtain ⟨pd,xs,ht,hw⟩:=pJ hw;refine zB hs hw ?_;clear hs hw;intro a W hs hw;have hw:Has 0 w0 W (aA p (dA (IntKind.i64.wrap (f.place+1)) pd xs) 271::cK pd f.d::Fz H::bT::aA b4 zrc 68::aA b3 (aK bt (.slice sad bt.l.length scap)) 66::R):=hw.free.pm;refine fV (σ:=Value×Fh×Nat) (V:=fun u=>[.pointer (some ⟨p,0,none⟩),.pointer (some ⟨p,0,none⟩),.pointer (some ⟨p,0+0,none⟩),.int .i64 (IntKind.i64.wrap (f.place+1)),.agg ⟨aK bt (.slice sad bt.l.length scap)⟩,.pointer (some ⟨p,0,none⟩),.pointer (some ⟨p,0,none⟩),.pointer (some ⟨p,0+1,none⟩),.pointer (some ⟨pd,0,none⟩),.pointer (some ⟨b3,0+2,none⟩),.slice sad bt.l.length scap,.int .i64 (fE f.d bt.l).1,.agg ⟨aI (dR f bt) (.slice sad bt.l.length scap)⟩,.agg ⟨aI (dR f bt) (u 13).1⟩,.pointer (some ⟨(u 14).2.2,0,none⟩),.bool true])
   (Rs:=fun u D=>aA p (dA (IntKind.i64.wrap (f.place+1)) pd xs) 271::(if D 11 then cK pd (fE f.d bt.l).2 else cK pd f.d)::(if D 13 then FzF (u 13).2.1 (H.le (u 13).2.1∧cG (u 13).2.1 (u 13).1 bt.l) else Fz H)::(if D 14 then aA (u 14).2.2 (if D 15 then aI (dR f bt) (u 13).1 else zrc) 68 else bT)::aA b4 zrc 68::aA b3 (aK bt (.slice sad bt.l.length scap)) 66::R) (fun _=>(.nilIface,H,0)) hs hw (hVu:=?vu_3) (ho:=⟨?_,?_,?_,?_,?_,?_,?_,?_,?_,?_,?_,?c11_3,?_,?c13_3,?c14_3,?c15_3,trivial⟩) (k:=?k_3)
  case vu_3=>
   intro u u' j h;rcases j with _|_|_|_|_|_|_|_|_|_|_|_|_|_|_|j
   all_goals first|rfl|simp [h]
  case c11_3=>
   intro u LD D a W hcl hi hp hs hw;have h12:=Go.Sx.not_done hcl hi 12 (by kernel_rfl);have h13:=Go.Sx.not_done hcl h12 13 (by kernel_rfl);simp only [hi,h13,Bool.false_eq_true,if_false] at hw
   repeat (first|(refine sxv hs hw ?_;clear hs;intro a hs)|refine sxc hs ?_|(refine sxa hs hw ?_;clear hs hw;intro a b W hw hs)|(refine sxs hs hw ?_;clear hs hw;intro W hs hw))
   have hw:Has 0 w0 W (cK pd f.d::aA p (dA (IntKind.i64.wrap (f.place+1)) pd xs) 271::Fz H::(if D 14 then aA (u 14).2.2 (if D 15 then aI (dR f bt) (u 13).1 else zrc) 68 else bT)::aA b4 zrc 68::aA b3 (aK bt (.slice sad bt.l.length scap)) 66::R):=hw.pm;refine aH hs (hc:=aFJ w0 _ H pd f.d bt.l _ _ hb.ops hr inn hH hT hw) (k:=?_);rintro e0 W1 ⟨rfl,hw1⟩;refine ⟨_,rfl,?_⟩;clear hs hw;intro a hs;have hw:=hw1;clear hw1;refine zG hs ?_;refine Or.inl ⟨hs,?_⟩;show Has 0 w0 _ (aA p (dA (IntKind.i64.wrap (f.place+1)) pd xs) 271::cK pd (fE f.d bt.l).2::(if (Nat.beq 13 11 || D 13)=true then _ else _)::(if D 14 then aA (u 14).2.2 (if D 15 then aI (dR f bt) (u 13).1 else zrc) 68 else bT)::aA b4 zrc 68::aA b3 (aK bt (.slice sad bt.l.length scap)) 66::R);rw [h13];exact hw.swap2
  case c13_3=>
   intro u LD D a W hcl hi hp hs hw;have h15:=Go.Sx.not_done hcl hi 15 (by kernel_rfl);simp only [hi,h15,Bool.false_eq_true,if_false] at hw
   repeat (first|(refine sxv hs hw ?_;clear hs;intro a hs)|refine sxc hs ?_|(refine sxa hs hw ?_;clear hs hw;intro a b W hw hs)|(refine sxs hs hw ?_;clear hs hw;intro W hs hw))
   have hw:Has 0 w0 W (Fz H::aA p (dA (IntKind.i64.wrap (f.place+1)) pd xs) 271::(if D 11 then cK pd (fE f.d bt.l).2 else cK pd f.d)::(if D 14 then aA (u 14).2.2 zrc 68 else bT)::aA b4 zrc 68::aA b3 (aK bt (.slice sad bt.l.length scap)) 66::R):=hw.pm;refine aH hs (hc:=wE w0 _ H (dR f bt) _ _ (show (dR f bt).b.l.length≤1000 from Nat.le_trans hl8 (by decide)) hr hw) (k:=?_);rintro e0 W1 ⟨sv',H',rfl,h1,h2,hw1⟩;refine ⟨_,rfl,?_⟩;clear hs hw;intro a hs;have hw:=hw1;clear hw1;refine zG hs ?_;refine Or.inr ⟨(sv',H',0),hs,?_⟩;have hw:=hw.fzf (q:=H.le H'∧cG H' sv' bt.l) ⟨h1,h2⟩;show Has 0 w0 _ (aA p (dA (IntKind.i64.wrap (f.place+1)) pd xs) 271::(if D 11 then cK pd (fE f.d bt.l).2 else cK pd f.d)::FzF H' (H.le H'∧cG H' sv' bt.l)::(if D 14 then aA (u 14).2.2 (if (Nat.beq 15 13 || D 15)=true then _ else _) 68 else bT)::aA b4 zrc 68::aA b3 (aK bt (.slice sad bt.l.length scap)) 66::R);rw [h15];exact hw.pm
  case c14_3=>
   intro u LD D a W hcl hi hp hs hw;have h15:=Go.Sx.not_done hcl hi 15 (by kernel_rfl);simp only [hi,Bool.false_eq_true,if_false] at hw
   repeat (first|(refine sxv hs hw ?_;clear hs;intro a hs)|refine sxc hs ?_|(refine sxa hs hw ?_;clear hs hw;intro a b W hw hs)|(refine sxs hs hw ?_;clear hs hw;intro W hs hw))
   refine Or.inr ⟨(.nilIface,H,_),hs,?_⟩;show Has 0 w0 _ (aA p (dA (IntKind.i64.wrap (f.place+1)) pd xs) 271::(if D 11 then cK pd (fE f.d bt.l).2 else cK pd f.d)::(if D 13 then FzF (u 13).2.1 (H.le (u 13).2.1∧cG (u 13).2.1 (u 13).1 bt.l) else Fz H)::aA _ (if (Nat.beq 15 14 || D 15)=true then _ else _) 68::aA b4 zrc 68::aA b3 (aK bt (.slice sad bt.l.length scap)) 66::R);rw [h15];exact hw.fill (Upd.tl (Upd.tl (Upd.tl Upd.hd)))
  case c15_3=>
   intro u LD D a W hcl hi hp hs hw;have h13:=Go.Sx.done hp 13 (by kernel_rfl);have h14:=Go.Sx.done hp 14 (by kernel_rfl);simp only [hi,h13,h14,Bool.false_eq_true,if_false,if_true] at hw;have hv:cG (u 13).2.1 (u 13).1 bt.l:=by
    have hw2:=hw.perm (B:=FzF (u 13).2.1 (H.le (u 13).2.1∧cG (u 13).2.1 (u 13).1 bt.l)::aA p (dA (IntKind.i64.wrap (f.place+1)) pd xs) 271::(if D 11 then cK pd (fE f.d bt.l).2 else cK pd f.d)::aA (u 14).2.2 zrc 68::aA b4 zrc 68::aA b3 (aK bt (.slice sad bt.l.length scap)) 66::R) (by repeat (first|exact List.Perm.refl _|refine nJ (by repeat (first|exact Pick.hd|apply Pick.tl)) ?_));exact hw2.unfzf.1.2
   obtain ⟨tad,tcap,e13⟩:=hv.slice;refine d7 hs (hw:=hw) (vs:=aI (dR f bt) (u 13).1) (h1:=by rw [e13];rfl) (k:=?_);clear hs hw;intro W hs hw;refine zG hs ?_;refine Or.inl ⟨hs,?_⟩;show Has 0 w0 _ (aA p (dA (IntKind.i64.wrap (f.place+1)) pd xs) 271::(if D 11 then cK pd (fE f.d bt.l).2 else cK pd f.d)::(if (Nat.beq 13 15 || D 13)=true then _ else _)::(if (Nat.beq 14 15 || D 14)=true then _ else _)::aA b4 zrc 68::aA b3 (aK bt (.slice sad bt.l.length scap)) 66::R);rw [h13,h14];exact hw
  case k_3=>
   clear hs hw;intro u a W hs hw;replace hw:Has 0 w0 W (aA p (dA (IntKind.i64.wrap (f.place+1)) pd xs) 271::cK pd (fE f.d bt.l).2::FzF (u 13).2.1 (H.le (u 13).2.1∧cG (u 13).2.1 (u 13).1 bt.l)::aA (u 14).2.2 (aI (dR f bt) (u 13).1) 68::aA b4 zrc 68::aA b3 (aK bt (.slice sad bt.l.length scap)) 66::R):=hw;replace hs:Slots a 58 [(0,.pointer (some ⟨p,0,none⟩)),(3,.pointer (some ⟨b3,0,none⟩)),(4,.pointer (some ⟨b4,0,none⟩)),(5,.bool false),(6,.pointer (some ⟨(u 14).2.2,0,none⟩))]:=hs.ot;generalize (u 14).2.2=b6 at *;generalize (u 13).2.1=H1 at *;generalize (u 13).1=v1 at *;clear u;have hw:Has 0 w0 W (FzF H1 (H.le H1∧cG H1 v1 bt.l)::aA p (dA (IntKind.i64.wrap (f.place+1)) pd xs) 271::cK pd (fE f.d bt.l).2::aA b6 (aI (dR f bt) v1) 68::aA b4 zrc 68::aA b3 (aK bt (.slice sad bt.l.length scap)) 66::R):=hw.pm;obtain ⟨⟨hle1,hv1⟩,hw⟩:=hw.unfzf;obtain ⟨vad,vcap,rfl⟩:=hv1.slice;have ht1:i8 H1 f.told xs:=⟨ht.1,ht.2.mono (TolIn.le hle1)⟩
   have hlen:=aA6 (IntKind.i64.wrap (f.place+1)) pd ht;have hset:=aFO ht1 (c:=bt.c.toNat) (by omega) (x:=(bt.q,dR f bt)) (sv:= .slice vad bt.l.length vcap) hv1;refine zG hs ?_;have hw:Has 0 w0 W (aA p (dA (IntKind.i64.wrap (f.place+1)) pd xs) 271::Fz H1::cK pd (fE f.d bt.l).2::aA b6 (aI (dR f bt) (.slice vad bt.l.length vcap)) 68::aA b4 zrc 68::aA b3 (aK bt (.slice sad bt.l.length scap)) 66::R):=hw.pm;refine gS (V:=[.pointer (some ⟨p,0,none⟩),.pointer (some ⟨b3,0+0,none⟩),.int .i64 bt.c,.pointer (some ⟨b3,0+1,none⟩),.int .i64 bt.q,.agg ⟨aI (dR f bt) (.slice vad bt.l.length vcap)⟩,.agg ⟨.int .i64 bt.q::aI (dR f bt) (.slice vad bt.l.length vcap)⟩,.pointer (some ⟨p,0,none⟩),.pointer (some ⟨p,0+2,none⟩),.pointer (some ⟨p,0+2+bt.c.toNat*6,none⟩),.bool true])
    (Rs:=fun D=>(if D 10 then aA p (dA (IntKind.i64.wrap (f.place+1)) pd (ov xs (bt.c.toNat*6) (.int .i64 bt.q::aI (dR f bt) (.slice vad bt.l.length vcap)))) 271 else aA p (dA (IntKind.i64.wrap (f.place+1)) pd xs) 271)::Fz H1::cK pd (fE f.d bt.l).2::aA b6 (aI (dR f bt) (.slice vad bt.l.length vcap)) 68::aA b4 zrc 68::aA b3 (aK bt (.slice sad bt.l.length scap)) 66::R) hs hw (ho:=⟨?_,?_,?_,?_,?_,?_,?_,?_,?_,?c9_4,?c10_4,trivial⟩) (k:=?k_4)
   case c9_4=>
    intro LD D a W hcl hi hp hs hw;refine lM hs (h0:=by omega) (h1:=by omega) (c:=?_);clear hs;intro a hs;refine zG hs ?_;exact ⟨hs,hw⟩
   case c10_4=>
    intro LD D a W hcl hi hp hs hw;simp only [hi,Bool.false_eq_true,if_false] at hw;refine d7 hs (hw:=hw) (vs:= .int .i64 bt.q::aI (dR f bt) (.slice vad bt.l.length vcap)) (hl:=by rw [hlen,Nat.ble_eq];show 0+2+bt.c.toNat*6+6≤38;omega) (k:=?_);clear hs hw;intro W hs hw;refine zG hs ?_;refine ⟨hs,?_⟩;have e:ov (dA (IntKind.i64.wrap (f.place+1)) pd xs) (0+2+bt.c.toNat*6) (.int .i64 bt.q::aI (dR f bt) (.slice vad bt.l.length vcap))=dA (IntKind.i64.wrap (f.place+1)) pd (ov xs (bt.c.toNat*6) (.int .i64 bt.q::aI (dR f bt) (.slice vad bt.l.length vcap))):=by
     rw [show 0+2+bt.c.toNat*6=bt.c.toNat*6+1+1 by omega];rfl
    rw [e] at hw;exact hw
   case k_4=>
    clear hs hw;intro a W hs hw;replace hw:Has 0 w0 W (aA p (dA (IntKind.i64.wrap (f.place+1)) pd (ov xs (bt.c.toNat*6) (.int .i64 bt.q::aI (dR f bt) (.slice vad bt.l.length vcap)))) 271::Fz H1::cK pd (fE f.d bt.l).2::aA b6 (aI (dR f bt) (.slice vad bt.l.length vcap)) 68::aA b4 zrc 68::aA b3 (aK bt (.slice sad bt.l.length scap)) 66::R):=hw;replace hs:Slots a 58 [(0,.pointer (some ⟨p,0,none⟩)),(4,.pointer (some ⟨b4,0,none⟩)),(5,.bool false),(6,.pointer (some ⟨b6,0,none⟩))]:=hs.ot;have hw:Has 0 w0 W (aA p (dA (IntKind.i64.wrap (f.place+1)) pd (ov xs (bt.c.toNat*6) (.int .i64 bt.q::aI (dR f bt) (.slice vad bt.l.length vcap)))) 271::cK pd (fE f.d bt.l).2::Fz H1::aA b6 (aI (dR f bt) (.slice vad bt.l.length vcap)) 68::aA b4 zrc 68::aA b3 (aK bt (.slice sad bt.l.length scap)) 66::R):=hw.pm;have hw:=mL (f:=nP f bt) hw hset;refine zA hs hw ?_;clear hs;intro a hs;have hw:Has 0 w0 W (Fz H1::aU H1 p (nP f bt)::aA b6 (aI (dR f bt) (.slice vad bt.l.length vcap)) 68::aA b4 zrc 68::aA b3 (aK bt (.slice sad bt.l.length scap)) 66::R):=hw.swap2;refine aH hs (hc:=wE w0 _ H1 (dR f bt) _ _ (show (dR f bt).b.l.length≤1000 from Nat.le_trans hl8 (by decide)) hv1 hw) (k:=?_);rintro e0 W1 ⟨sv',H2,rfl,h1,h2,hw1⟩;refine ⟨_,rfl,?_⟩;clear hs hw;intro a hs;have hw:=hw1;clear hw1;obtain ⟨uad,ucap,rfl⟩:=h2.slice;refine zB hs hw ?_;clear hs hw;intro a W hs hw;have hw:Has 0 w0 _ (aA b4 (aI (dR f bt) (.slice uad bt.l.length ucap)) 68::aU H1 p (nP f bt)::Fz H2::aA b6 (aI (dR f bt) (.slice vad bt.l.length vcap)) 68::aA b3 (aK bt (.slice sad bt.l.length scap)) 66::R):=hw.pm;refine rc2 hs rfl rfl hw In.hd rfl rfl ?_;have hw:=j7 (hw.d1) h1;exact ⟨_,H2,rfl,hle1.trans h1,h2,hw.sub (List.Sublist.cons_cons _ (List.Sublist.cons_cons _ (List.Sublist.cons _ (List.Sublist.cons _ (List.Sublist.refl _)))))⟩
   all_goals
    intro LD D a W hcl hi hp hs hw;refine zA hs hw ?_;clear hs;intro a hs;exact ⟨hs,hw⟩
  all_goals
   intro u LD D a W hcl hi hp hs hw;refine zA hs hw ?_;clear hs;intro a hs;exact Or.inl ⟨hs,hw⟩
 all_goals
  intro LD D a W hcl hi hp hs hw;refine zC hs hw ?_;clear hs;intro a hs;exact ⟨hs,hw⟩
end Go.Proofs.YtgpbngfehfbndaaGreatDoor.Sw
namespace Go.Sx
open Go.RowKit
theorem aAa {P:Program} {d:Nat} {xs ys:List Value} {f:Field} {fs:List Field} {W:World} {b:Bool} {z cx cy:List Value} (u:Ty P f.type true z) (hn:(f.name != "_")=true) (hx:cut xs f.offset z.length=cx) (hy:cut ys f.offset z.length=cy) (he:(Op.equalIn d f.type (.agg ⟨cx⟩) (.agg ⟨cy⟩)).run P W= .ok b W):
  (Op.eqFields d ⟨xs⟩ ⟨ys⟩ (f::fs)).run P W=if b then (Op.eqFields d ⟨xs⟩ ⟨ys⟩ fs).run P W else .ok false W:=by
 have hn':f.name≠ "_" :=by simpa using hn
 subst hx hy;rw [gB,gB] at he;simp only [Op.eqFields,if_pos hn',Sem.run_bind,part,u.isAgg,Result.andThen_ok,if_true,u.sizeOf,Sem.run_pure];simp only [List.extract_toArray,List.extract_eq_take_drop];rw [show f.offset+z.length - f.offset=z.length by omega,he];cases b <;> simp
theorem aAb {P:Program} (d:Nat) {T TI TN TS:TypeId} {zi zn zs:List Value} [IntTy P TI .i64] [IntTy P TN .i64] [StrTy P TS] [ui:Ty P TI false zi] [un:Ty P TN false zn] [us:Ty P TS false zs] (ht:P.underlying T=some (.struct (P.fieldsOf T))) (hp:P.stoodInHeld T=false)
  (hF:(P.fieldsOf T).toList.map (fun f=>(f.name != "_",f.offset,f.type))= [(true,0,TI),(true,1,TN),(true,2,TS)]) (k n:Int) (s:ByteArray) (k' n':Int) (s':ByteArray) (W:World):
  (Op.equalIn (d+2) T (.agg ⟨[.int .i64 k,.int .i64 n,.string s]⟩) (.agg ⟨[.int .i64 k',.int .i64 n',.string s']⟩)).run P W= .ok ((k == k') && (n == n') && (s.toList == s'.toList)) W:=by
 rw [run_equalIn_agg W (d+1) T _ _ ht hp];obtain ⟨f0,r0,e0,m0,hr0⟩:=List.map_eq_cons_iff.1 hF;obtain ⟨f1,r1,e1,m1,hr1⟩:=List.map_eq_cons_iff.1 hr0;obtain ⟨f2,r2,e2,m2,hr2⟩:=List.map_eq_cons_iff.1 hr1;have hr3:=List.map_eq_nil_iff.1 hr2;subst hr3 e2 e1;rw [e0];simp only [Prod.mk.injEq] at m0 m1 m2;obtain ⟨a0,b0,c0⟩:=m0;obtain ⟨a1,b1,c1⟩:=m1;obtain ⟨a2,b2,c2⟩:=m2;rw [kV (x:= .int .i64 k) (y:= .int .i64 k') (b:=k == k') (z:=zi) (by rw [c0];exact ui) a0 (by rw [b0];rfl) (by rw [b0];rfl) (by rw [c0];exact run_equalIn_int W d TI .i64 .i64 k k' (IntTy.out))];rw [kV (x:= .int .i64 n) (y:= .int .i64 n') (b:=n == n') (z:=zn) (by rw [c1];exact un) a1 (by rw [b1];rfl) (by rw [b1];rfl) (by rw [c1];exact run_equalIn_int W d TN .i64 .i64 n n' (IntTy.out))];rw [kV (x:= .string s) (y:= .string s') (b:=s.toList == s'.toList) (z:=zs) (by rw [c2];exact us) a2 (by rw [b2];rfl) (by rw [b2];rfl) (by rw [c2];exact run_equalIn_string W d TS s s' (StrTy.out))];simp only [Op.eqFields,Sem.run_pure];cases k == k' <;> cases n == n' <;> cases s.toList == s'.toList <;> rfl
end Go.Sx
namespace Go.Proofs.YtgpbngfehfbndaaGreatDoor.Sw
open Go.RowKit Go.Sx
open Go.Proofs.Tryz (prog)
theorem aFU (o o':OpD) (W:World):(Op.equalIn 10000 55 (.agg ⟨bZ o⟩) (.agg ⟨bZ o'⟩)).run prog W= .ok (kW o o') W:=by
 rw [show (10000:Nat)=9999+1 from rfl,run_equalIn_agg W 9999 55 _ _ Tryz.underlying55 (by kernel_rfl)];have hF:(Program.fieldsOf prog 55).toList.map (fun f=>(f.name != "_",f.offset,f.type))= [(true,0,3),(true,1,9),(true,2,53),(true,5,53),(true,8,2)]:=by kernel_rfl
 obtain ⟨f0,r0,e0,m0,hr0⟩:=List.map_eq_cons_iff.1 hF;obtain ⟨f1,r1,e1,m1,hr1⟩:=List.map_eq_cons_iff.1 hr0;obtain ⟨f2,r2,e2,m2,hr2⟩:=List.map_eq_cons_iff.1 hr1;obtain ⟨f3,r3,e3,m3,hr3⟩:=List.map_eq_cons_iff.1 hr2;obtain ⟨f4,r4,e4,m4,hr4⟩:=List.map_eq_cons_iff.1 hr3;have hr5:=List.map_eq_nil_iff.1 hr4;subst hr5 e4 e3 e2 e1;rw [e0];clear hF hr0 hr1 hr2 hr3 hr4 e0;simp only [Prod.mk.injEq] at m0 m1 m2 m3 m4;obtain ⟨a0,b0,c0⟩:=m0;obtain ⟨a1,b1,c1⟩:=m1;obtain ⟨a2,b2,c2⟩:=m2;obtain ⟨a3,b3,c3⟩:=m3;obtain ⟨a4,b4,c4⟩:=m4;rw [kV (x:= .int .i64 o.kind) (y:= .int .i64 o'.kind) (b:=o.kind == o'.kind) (z:=[.int .i64 0]) (by rw [c0];infer_instance) a0 (by rw [b0];rfl) (by rw [b0];rfl) (by rw [c0];exact run_equalIn_int W 9998 3 .i64 .i64 _ _ (IntTy.out))];rw [kV (x:= .string o.key) (y:= .string o'.key) (b:=o.key.toList == o'.key.toList) (z:=[.string ⟨#[]⟩]) (by rw [c1];infer_instance) a1 (by rw [b1];rfl) (by rw [b1];rfl) (by rw [c1];exact run_equalIn_string W 9998 9 _ _ (StrTy.out))];rw [aAa (cx:=[.int .i64 o.vk,.int .i64 o.vn,.string o.vs]) (cy:=[.int .i64 o'.vk,.int .i64 o'.vn,.string o'.vs]) (b:=d9 o.vk o.vn o.vs o'.vk o'.vn o'.vs) (z:=[.int .i64 0,.int .i64 0,.string ⟨#[]⟩]) (by rw [c2];infer_instance) a2 (by rw [b2];rfl) (by rw [b2];rfl) (by rw [c2];exact aAb 9997 Tryz.underlying53 (by kernel_rfl) (by kernel_rfl:_= [(true,0,3),(true,1,2),(true,2,9)]) _ _ _ _ _ _ W)];rw [aAa (cx:=[.int .i64 o.ok,.int .i64 o.on,.string o.os]) (cy:=[.int .i64 o'.ok,.int .i64 o'.on,.string o'.os]) (b:=d9 o.ok o.on o.os o'.ok o'.on o'.os) (z:=[.int .i64 0,.int .i64 0,.string ⟨#[]⟩]) (by rw [c3];infer_instance) a3 (by rw [b3];rfl) (by rw [b3];rfl) (by rw [c3];exact aAb 9997 Tryz.underlying53 (by kernel_rfl) (by kernel_rfl:_= [(true,0,3),(true,1,2),(true,2,9)]) _ _ _ _ _ _ W)];rw [kV (x:= .int .i64 o.n) (y:= .int .i64 o'.n) (b:=o.n == o'.n) (z:=[.int .i64 0]) (by rw [c4];infer_instance) a4 (by rw [b4];rfl) (by rw [b4];rfl) (by rw [c4];exact run_equalIn_int W 9998 2 .i64 .i64 _ _ (IntTy.out))];simp only [Op.eqFields,Sem.run_pure];unfold kW;cases o.kind == o'.kind <;> cases o.key.toList == o'.key.toList <;> cases d9 o.vk o.vn o.vs o'.vk o'.vn o'.vs <;> cases d9 o.ok o.on o.os o'.ok o'.on o'.os <;> cases o.n == o'.n <;> rfl
section
variable {ops:Array Oper} {rest:List Oper} {Q:Exit→Act→World→Prop} {a:Act} {n:Nat} {L:List (Nat×Value)} {W:World} {d:Nat} {T S':TypeId} {p:String} {e:Array Edge} {x y:Operand} {o o':OpD}
theorem aFV (hs:Slots a n L) (hx:ev L x=some (.agg ⟨bZ o⟩):=by with_unfolding_all exact rfl) (hy:ev L y=some (.agg ⟨bZ o'⟩):=by with_unfolding_all exact rfl) (hd:Nat.blt d n=true:=by with_unfolding_all exact rfl)
  (c:∀a',Slots a' n ((d,.bool (!kW o o'))::L)→wpList prog ops Q rest a' W):wpList prog ops Q (⟨some d,.binOp .neq 55 x y S',T,p,e,none⟩::rest) a W:=
 bP hs hd (by simp only [execOp,hs.ev hx,hs.ev hy,Sem.run_bind];rw [run_eqGuard_agg W .neq 55 x y _ _ (by kernel_rfl)];simp only [Result.andThen_ok];rw [run_neq_struct,aFU];rfl) c
end
def eqL (l l':List OpD):Bool:=(l.length == l'.length) && lQ l l'
theorem aAc (l:List OpD) (sv:Value) (l':List OpD) (sv':Value) (w:World) (r:Rd w 9 sv l.length (l.flatMap bZ)) (r':Rd w 9 sv' l'.length (l'.flatMap bZ)):
  Calls prog 280 ⟨[sv,sv']⟩ w fun e w'=>e= .returned (.bool (eqL l l'))∧Below w.heap.size w w':=by
 have hw:=Has.start (G:=0) (w:=w) (Nat.zero_le _);obtain ⟨sad,scap,rfl⟩:∃ad cap,sv= .slice ad l.length cap:=by obtain ⟨_,ad,cap,e,_⟩:=r;exact ⟨ad,cap,e⟩
 obtain ⟨tad,tcap,rfl⟩:∃ad cap,sv'= .slice ad l'.length cap:=by obtain ⟨_,ad,cap,e,_⟩:=r';exact ⟨ad,cap,e⟩
 have hlen:l.length≤9223372036854775807:=r.len;refine en Tryz.func280 Tryz.ntmps280 fun a hs=>?_;refine zA hs hw ?_;clear hs;intro a hs;cases h2:((l.length:Int) !=(l'.length:Int)) with
 |true=>
  rw [h2] at hs;refine zA hs hw ?_;clear hs;intro a hs;have h3:¬l.length=l'.length:=by rw [bne_iff_ne] at h2;omega
  exact rt1 hs rfl rfl ⟨by simp [eqL,h3],hw.end inn⟩
 |false=>
 rw [h2] at hs;refine zA hs hw ?_;clear hs;intro a hs;have hL:l.length=l'.length:=by
  have:(l.length:Int)=(l'.length:Int):=by simpa using h2
  omega
 have hmb:eqL l l'=lQ l l':=by simp [eqL,hL]
 rw [hmb];clear hmb h2;refine bX (σ:=Nat) (fun i=>[(0,.slice sad l.length scap),(1,.slice tad l'.length tcap),(12,.int .i64 (l.length:Int)),(13,.int .i64 (i:Int))]) (fun _=>Old w 0:: []) (fun i=>i≤l.length∧lQ (l.take i) (l'.take i)=true) (fun i=>l.length - i) 0 ⟨Nat.zero_le _,rfl⟩ hs ⟨rfl,rfl,rfl,rfl,trivial⟩ hw ?_;clear hs hw;rintro i a W ⟨hi,ha⟩ hs hw;refine zA hs hw ?_;clear hs;intro a hs;refine cI hs (kt:=fun hcc=>?_) (kf:=fun hcc=>?_)
 ·have hi':i<l.length:=by simpa using hcc
  obtain ⟨o,hoi⟩:∃o,l[i]? =some o:=⟨l[i],List.getElem?_eq_getElem hi'⟩
  obtain ⟨o',hoi'⟩:∃o,l'[i]? =some o:=⟨l'[i],List.getElem?_eq_getElem (by omega)⟩
  have hnext:=aFK hoi hoi' ha;have hall:=aFL hoi hoi';obtain ⟨g1,f1,rfl,hg1,hc1⟩:=aA4 r hoi;obtain ⟨g2,f2,rfl,hg2,hc2⟩:=aA4 r' hoi';refine zA hs hw ?_;clear hs;intro a hs;refine gS (V:=[.slice (some ⟨g1,f1,none⟩) l.length scap,.int .i64 (i:Int),.pointer (some ⟨g1,f1+i*9,none⟩),.agg ⟨bZ o⟩,.slice (some ⟨g2,f2,none⟩) l'.length tcap,.int .i64 (i:Int),.pointer (some ⟨g2,f2+i*9,none⟩),.agg ⟨bZ o'⟩,.bool (!kW o o')])
   (Rs:=fun D=>Old w 0:: []) hs hw (ho:=⟨?_,?_,?c2_c,?c3_c,?_,?_,?c6_c,?c7_c,?c8_c,trivial⟩) (k:=?k_c)
  case c2_c=>
   intro LD D a W hcl hi hp hs hw;refine eL hs (z:=bZ ⟨0,⟨#[]⟩,0,0,⟨#[]⟩,0,0,⟨#[]⟩,0⟩) (h0:=by omega) (h1:=by omega) (c:=?_);clear hs;intro a hs;refine zG hs ?_;exact ⟨hs,hw⟩
  case c6_c=>
   intro LD D a W hcl hi hp hs hw;refine eL hs (z:=bZ ⟨0,⟨#[]⟩,0,0,⟨#[]⟩,0,0,⟨#[]⟩,0⟩) (h0:=by omega) (h1:=by omega) (c:=?_);clear hs;intro a hs;refine zG hs ?_;exact ⟨hs,hw⟩
  case c3_c=>
   intro LD D a W hcl hi hp hs hw;refine eC (z:=bZ ⟨0,⟨#[]⟩,0,0,⟨#[]⟩,0,0,⟨#[]⟩,0⟩) hs (hc:=fun j u h=>((hw.end In.hd).cell hg1).trans (hc1 j u h)) (hl:=rfl) (c:=?_);clear hs;intro a hs;refine zG hs ?_;exact ⟨hs,hw⟩
  case c7_c=>
   intro LD D a W hcl hi hp hs hw;refine eC (z:=bZ ⟨0,⟨#[]⟩,0,0,⟨#[]⟩,0,0,⟨#[]⟩,0⟩) hs (hc:=fun j u h=>((hw.end In.hd).cell hg2).trans (hc2 j u h)) (hl:=rfl) (c:=?_);clear hs;intro a hs;refine zG hs ?_;exact ⟨hs,hw⟩
  case c8_c=>
   intro LD D a W hcl hi hp hs hw;refine aFV hs (c:=?_);clear hs;intro a hs;refine zG hs ?_;exact ⟨hs,hw⟩
  case k_c=>
   clear hs hw;intro a W hs hw;replace hs:Slots a 26 [(24,.bool (!kW o o')),(0,.slice (some ⟨g1,f1,none⟩) l.length scap),(1,.slice (some ⟨g2,f2,none⟩) l'.length tcap),(12,.int .i64 (l.length:Int)),(13,.int .i64 (i:Int))]:=hs.ot;cases he:kW o o' with
   |false=>
    rw [he] at hs;refine zA hs hw ?_;clear hs;intro a hs;exact rt1 hs rfl rfl ⟨by rw [hall he],hw.end inn⟩
   |true=>
    rw [he] at hs hnext;refine zA hs hw ?_;clear hs;intro a hs;exact bS (i+1) hs hw ⟨hi',hnext⟩ (by show l.length - (i+1)<l.length - i;omega) ⟨rfl,rfl,rfl,bU (by show IntKind.i64.wrap ((i:Int)+1)=((i+1:Nat):Int);rw [IntWalk.i64_in _ (by omega)];omega),trivial⟩
  all_goals
   intro LD D a W hcl hi hp hs hw;refine zA hs hw ?_;clear hs;intro a hs;exact ⟨hs,hw⟩
 ·have hi':i=l.length:=by
   have:¬i<l.length:=by simpa using hcc
   omega
  subst hi';rw [List.take_length,hL,List.take_length] at ha;refine zA hs hw ?_;clear hs;intro a hs;exact rt1 hs rfl rfl ⟨by rw [ha],hw.end inn⟩
def jS (a b:cC):Bool:=(a.place == b.place) && ((a.err == b.err) && ((a.b.c == b.b.c) && ((a.b.q == b.b.q) && eqL a.b.l b.b.l)))
theorem aFW (x y:cC) (sv sv':Value) (w:World) (r:Rd w 9 sv x.b.l.length (x.b.l.flatMap bZ)) (r':Rd w 9 sv' y.b.l.length (y.b.l.flatMap bZ)):
  Calls prog 305 ⟨[.agg ⟨aI x sv⟩,.agg ⟨aI y sv'⟩]⟩ w fun e w'=>e= .returned (.bool (jS x y))∧Below w.heap.size w w':=by
 have hw:=Has.start (G:=0) (w:=w) (Nat.zero_le _);refine en Tryz.func305 Tryz.ntmps305 fun a hs=>?_
 repeat (first|(refine sxv hs hw ?_;clear hs;intro a hs)|refine sxc hs ?_|(refine sxa hs hw ?_;clear hs hw;intro a b W hw hs)|(refine sxs hs hw ?_;clear hs hw;intro W hs hw))
 unfold jS;cases h1:(x.place == y.place) with
 |false=>
  rw [h1] at hs;refine zA hs hw ?_;clear hs;intro a hs;exact rt1 hs rfl rfl ⟨rfl,hw.end inn⟩
 |true=>
 rw [h1] at hs;refine zA hs hw ?_;clear hs;intro a hs;cases h2:(x.err == y.err) with
 |false=>
  rw [h2] at hs;refine zA hs hw ?_;clear hs;intro a hs;exact rt1 hs rfl rfl ⟨rfl,hw.end inn⟩
 |true=>
 rw [h2] at hs;refine zA hs hw ?_;clear hs;intro a hs;cases h3:(x.b.c == y.b.c) with
 |false=>
  rw [h3] at hs;refine zA hs hw ?_;clear hs;intro a hs;exact rt1 hs rfl rfl ⟨rfl,hw.end inn⟩
 |true=>
 rw [h3] at hs;refine zA hs hw ?_;clear hs;intro a hs;cases h4:(x.b.q == y.b.q) with
 |false=>
  rw [h4] at hs;refine zA hs hw ?_;clear hs;intro a hs;exact rt1 hs rfl rfl ⟨rfl,hw.end inn⟩
 |true=>
 rw [h4] at hs;refine zA hs hw ?_;clear hs;intro a hs;refine aH hs (hc:=aAc x.b.l sv y.b.l sv' _ (hw.rd inn hw.ext.size r) (hw.rd inn hw.ext.size r')) (k:=?_);rintro e0 W1 ⟨rfl,hb⟩;refine ⟨_,rfl,?_⟩;clear hs;intro a hs;replace hw:=hw.below hb;clear hb;refine zA hs hw ?_;clear hs;intro a hs;exact rt1 hs rfl rfl ⟨rfl,hw.end inn⟩
structure fA where
 f:dZ
 l:List cC
def aV (H:Fh) (p:Nat) (s:fA):Res:=Ex fun x:Nat×Value×List Value=>aA p [.pointer (some ⟨x.1,0,none⟩),x.2.1] 186::aU H x.1 s.f::Sx.Own 68 5 x.2.1 s.l.length x.2.2::bQ (Ch (RowIn H) s.l x.2.2):: []
section
variable {G p pf:Nat} {w W:World} {R:List Res} {s:fA} {H H':Fh} {v:Value} {xs:List Value}
theorem jA (h:Has G w W (aA p [.pointer (some ⟨pf,0,none⟩),v] 186::aU H pf s.f::Sx.Own 68 5 v s.l.length xs::R)) (hc:Ch (RowIn H) s.l xs):Has G w W (aV H p s::R):=
 Has.shut (pf,v,xs) ((h.fact hc).pm)
theorem mM (h:Has G w W (aV H p s::R)):∃pf vad vcap xs,Ch (RowIn H) s.l xs∧Has G w W (aA p [.pointer (some ⟨pf,0,none⟩),.slice vad s.l.length vcap] 186::aU H pf s.f::Sx.Own 68 5 (.slice vad s.l.length vcap) s.l.length xs::R):=by
 obtain ⟨⟨pf,v,xs⟩,h⟩:=Has.open h;have h:Has G w W (aA p [.pointer (some ⟨pf,0,none⟩),v] 186::aU H pf s.f::Sx.Own 68 5 v s.l.length xs::bQ (Ch (RowIn H) s.l xs)::R):=h;have hf:=h.told (In.tl (In.tl (In.tl In.hd)));have h:Has G w W (aA p [.pointer (some ⟨pf,0,none⟩),v] 186::aU H pf s.f::Sx.Own 68 5 v s.l.length xs::R):=h.sub (List.Sublist.cons_cons _ (List.Sublist.cons_cons _ (List.Sublist.cons_cons _ (List.Sublist.cons _ (List.Sublist.refl _)))));have h2:Has G w W (Sx.Own 68 5 v s.l.length xs::aA p [.pointer (some ⟨pf,0,none⟩),v] 186::aU H pf s.f::R):=h.pm;obtain ⟨ad,cap,rfl⟩:=h2.own_slice;exact ⟨pf,ad,cap,xs,hf,h⟩
theorem aAd (h:Has G w W (aV H p s::R)) (hl:H.le H'):Has G w W (aV H' p s::R):=by
 obtain ⟨pf,ad,cap,xs,h1,h2⟩:=mM h;exact jA (j7 h2.swap2 hl).swap2 (h1.mono (RowIn.le hl))
end
theorem aFX (w0 W:World) (H:Fh) (R:List Res) (hw:Has 0 w0 W R):
  Calls prog 199 ⟨[]⟩ W fun e W'=>∃p,e= .returned (.pointer (some ⟨p,0,none⟩))∧Has 0 w0 W' (aV H p ⟨fY,[]⟩::R):=by
 refine en Tryz.func199 Tryz.ntmps199 fun a hs=>?_;refine zA hs hw ?_;clear hs;intro a hs;refine aH hs (hc:=aA7 w0 _ H _ hw) (k:=?_);rintro e0 W1 ⟨c,rfl,hw1⟩;refine ⟨_,rfl,?_⟩;clear hs hw;intro a hs;have hw:=hw1;clear hw1
 repeat (first|(refine sxv hs hw ?_;clear hs;intro a hs)|refine sxc hs ?_|(refine sxa hs hw ?_;clear hs hw;intro a b W hw hs)|(refine sxs hs hw ?_;clear hs hw;intro W hs hw))
 refine rt1 hs rfl rfl ⟨_,rfl,?_⟩;have hw:=hw.nilOwn 68 5;exact jA (s:=⟨fY,[]⟩) (xs:=[]) (hw.pm) rfl
theorem sA (w0 W:World) (H:Fh) (p:Nat) (s:fA) (R:List Res) (hl:s.l.length≤1000000) (hw:Has 0 w0 W (aV H p s::R)):
  Calls prog 181 ⟨[.pointer (some ⟨p,0,none⟩)]⟩ W fun e W'=>e= .returned (.int .i64 ((s.l.length:Int)+1))∧Has 0 w0 W' (aV H p s::R):=by
 obtain ⟨pf,ad,cap,xs,hc,hw⟩:=mM hw;refine en Tryz.func181 Tryz.ntmps181 fun a hs=>?_;refine zC hs hw ?_;clear hs;intro a hs;refine rt1 hs rfl rfl ⟨?_,jA hw hc⟩;rw [IntWalk.i64_in _ (by omega)]
def one (s:fA) (r:cC):fA×Bool×Int:=
 if r.place > (s.l.length:Int)+1 then (s,false,2)
 else if r.place<(s.l.length:Int)+1 then
  if r.place<1∨¬(∃x,s.l[(r.place - 1).toNat]? =some x∧jS r x=true) then (s,false,1) else (s,false,0)
 else if (next s.f r.b).2.2=true∧(next s.f r.b).2.1.err=r.err then (⟨(next s.f r.b).1,s.l ++ [r]⟩,true,0) else (s,false,1)
theorem aFY (w0 W:World) (H:Fh) (p:Nat) (s:fA) (r:cC) (sv:Value) (R:List Res) (hl:s.l.length≤1000000) (hi64:i64 r.place) (hb:iK r.b) (hr:cG H sv r.b.l) (hH:(fr w0).le H) (hT:Tabs w0) (hw:Has 0 w0 W (aV H p s::Fz H::R)):
  Calls prog 281 ⟨[.pointer (some ⟨p,0,none⟩),.agg ⟨aI r sv⟩]⟩ W fun e W'=>∃H',e= .returned (.tuple ⟨[.bool (one s r).2.1,.int .i64 (one s r).2.2]⟩)∧H.le H'∧Has 0 w0 W' (aV H' p (one s r).1::Fz H'::R):=by
 obtain ⟨sad,scap,rfl⟩:=hr.slice;refine en Tryz.func281 Tryz.ntmps281 fun a hs=>?_
 repeat (first|(refine sxv hs hw ?_;clear hs;intro a hs)|refine sxc hs ?_|(refine sxa hs hw ?_;clear hs hw;intro a b W hw hs)|(refine sxs hs hw ?_;clear hs hw;intro W hs hw))
 obtain ⟨b3,q3⟩:=nm1 hw;subst q3;have hw:Has 0 w0 _ (aV H p s::aA b3 (aI r (.slice sad r.b.l.length scap)) 68::Fz H::R):=hw.pm;refine gS (V:=[.pointer (some ⟨b3,0+0,none⟩),.int .i64 r.place,.pointer (some ⟨p,0,none⟩),.int .i64 ((s.l.length:Int)+1),.bool (decide (r.place > (s.l.length:Int)+1)),.bool (decide (r.place > (s.l.length:Int)+1))])
  (Rs:=fun D=>aV H p s::aA b3 (aI r (.slice sad r.b.l.length scap)) 68::Fz H::R) hs hw (ho:=⟨?_,?_,?_,?c3_1,?_,?_,trivial⟩) (k:=?k_1)
 case c3_1=>
  intro LD D a W hcl hi hp hs hw;refine aH hs (hc:=sA w0 _ H p s _ hl hw) (k:=?_);rintro e0 W1 ⟨rfl,hw1⟩;refine ⟨_,rfl,?_⟩;clear hs hw;intro a hs;have hw:=hw1;clear hw1;refine zG hs ?_;exact ⟨hs,hw⟩
 case k_1=>
  clear hs hw;intro a W hs hw;replace hs:Slots a 74 [(0,.pointer (some ⟨p,0,none⟩)),(3,.pointer (some ⟨b3,0,none⟩)),(9,.bool (decide (r.place > (s.l.length:Int)+1)))]:=hs.ot;replace hw:Has 0 w0 W (aV H p s::aA b3 (aI r (.slice sad r.b.l.length scap)) 68::Fz H::R):=hw;cases h9:decide (r.place > (s.l.length:Int)+1) with
  |true=>
   rw [h9] at hs;have hX:one s r=(s,false,2):=by unfold one;rw [if_pos (of_decide_eq_true h9)]
   rw [hX];refine zA hs hw ?_;clear hs;intro a hs;exact rt2 hs rfl rfl rfl ⟨H,rfl,Fh.le.refl _,hw.drop2⟩
  |false=>
  rw [h9] at hs;refine zG hs ?_;refine gS (V:=[.pointer (some ⟨b3,0+0,none⟩),.int .i64 r.place,.pointer (some ⟨p,0,none⟩),.int .i64 ((s.l.length:Int)+1),.bool (decide (r.place<(s.l.length:Int)+1)),.bool (decide (r.place<(s.l.length:Int)+1))])
   (Rs:=fun D=>aV H p s::aA b3 (aI r (.slice sad r.b.l.length scap)) 68::Fz H::R) hs hw (ho:=⟨?_,?_,?_,?c3_2,?_,?_,trivial⟩) (k:=?k_2)
  case c3_2=>
   intro LD D a W hcl hi hp hs hw;refine aH hs (hc:=sA w0 _ H p s _ hl hw) (k:=?_);rintro e0 W1 ⟨rfl,hw1⟩;refine ⟨_,rfl,?_⟩;clear hs hw;intro a hs;have hw:=hw1;clear hw1;refine zG hs ?_;exact ⟨hs,hw⟩
  case k_2=>
   clear hs hw;intro a W hs hw;replace hs:Slots a 74 [(0,.pointer (some ⟨p,0,none⟩)),(3,.pointer (some ⟨b3,0,none⟩)),(15,.bool (decide (r.place<(s.l.length:Int)+1)))]:=hs.ot;replace hw:Has 0 w0 W (aV H p s::aA b3 (aI r (.slice sad r.b.l.length scap)) 68::Fz H::R):=hw;have g9:=of_decide_eq_false h9;cases h15:decide (r.place<(s.l.length:Int)+1) with
   |true=>
    rw [h15] at hs;have g15:=of_decide_eq_true h15;have hX:one s r=if r.place<1∨¬(∃x,s.l[(r.place - 1).toNat]? =some x∧jS r x=true) then (s,false,1) else (s,false,0):=by unfold one;rw [if_neg g9,if_pos g15]
    obtain ⟨pf,vad,vcap,xs,hch,hw⟩:=mM hw;have hw:Has 0 w0 W (aA p [.pointer (some ⟨pf,0,none⟩),.slice vad s.l.length vcap] 186::aU H pf s.f::Sx.Own 68 5 (.slice vad s.l.length vcap) s.l.length xs::aA b3 (aI r (.slice sad r.b.l.length scap)) 68::Fz H::R):=hw;refine zG hs ?_;cases h1:decide (r.place<1) with
    |true=>
     rw [hX,if_pos (.inl (of_decide_eq_true h1))];refine gS (V:=[.pointer (some ⟨b3,0+0,none⟩),.int .i64 r.place,.bool true,.bool true,undef,undef,undef,undef,undef,undef,undef,undef,undef,undef,undef,undef,.bool true])
      (Rs:=fun D=>aA p [.pointer (some ⟨pf,0,none⟩),.slice vad s.l.length vcap] 186::aU H pf s.f::Sx.Own 68 5 (.slice vad s.l.length vcap) s.l.length xs::aA b3 (aI r (.slice sad r.b.l.length scap)) 68::Fz H::R) hs hw (ho:=⟨?_,?_,?c2_3,?_,?_,?_,?_,?_,?_,?_,?_,?_,?_,?_,?_,?_,?_,trivial⟩) (k:=?k_3)
     case c2_3=>
      intro LD D a W hcl hi hp hs hw;refine zA hs hw ?_;clear hs;intro a hs;rw [h1] at hs;exact ⟨hs,hw⟩
     case k_3=>
      clear hs hw;intro a W hs hw;refine zA hs hw ?_;clear hs;intro a hs;exact rt2 hs rfl rfl rfl ⟨H,rfl,Fh.le.refl _,(jA hw hch).drop2⟩
     all_goals
      intro LD D a W hcl hi hp hs hw;refine zA hs hw ?_;clear hs;intro a hs;exact ⟨hs,hw⟩
    |false=>
     have g1:=of_decide_eq_false h1;obtain ⟨i,hi0⟩:∃i:Nat,r.place - 1=i:=⟨(r.place - 1).toNat,by omega⟩
     have hi':i<s.l.length:=by omega
     have hwrap:IntKind.i64.wrap (r.place - 1)=(i:Int):=by rw [IntWalk.i64_in _ (by omega)];omega
     obtain ⟨x,hx⟩:∃x,s.l[i]? =some x:=⟨s.l[i],List.getElem?_eq_getElem hi'⟩
     obtain ⟨cx,⟨tv,rfl,hxv⟩,hcx,hcut⟩:=hch.get RowIn.len hx;have hX2:one s r=if jS r x=true then (s,false,0) else (s,false,1):=by
      rw [hX,hi0,Int.toNat_natCast];cases hsm:jS r x with
      |true=>rw [if_neg,if_pos rfl];rintro (h|h);exact g1 h;exact h ⟨x,hx,hsm⟩
      |false=>rw [if_pos,if_neg (by decide)];exact .inr fun ⟨y,hy,hs⟩=>by rw [hx] at hy;cases hy;rw [hsm] at hs;cases hs
     rw [hX2];clear hX hX2;have hwo:Has 0 w0 W (Sx.Own 68 5 (.slice vad s.l.length vcap) s.l.length xs::aA p [.pointer (some ⟨pf,0,none⟩),.slice vad s.l.length vcap] 186::aU H pf s.f::aA b3 (aI r (.slice sad r.b.l.length scap)) 68::Fz H::R):=hw.pm;obtain ⟨g,cur,hadg,hcur,hcl0,hkc,hcm,hwo⟩:=hwo.open_own (by omega);obtain rfl:=hadg;have hcut2:∀j u,(aI x tv)[j]? =some u→cur[i*5+j]? =some u:=by
      intro j u hu;have h1:=congrArg (fun t=>t[j]?) hcut;simp only [gB,List.getElem?_take,List.getElem?_drop,hu] at h1;split at h1
      ·rw [←hcur,List.getElem?_take] at h1;split at h1
       ·exact h1
       ·cases h1
      ·cases h1
     have hw:Has 0 w0 W (aA g cur 68::aA p [.pointer (some ⟨pf,0,none⟩),.slice (some ⟨g,0,none⟩) s.l.length vcap] 186::aU H pf s.f::aA b3 (aI r (.slice sad r.b.l.length scap)) 68::Fz H::R):=hwo;obtain ⟨tad,tcap,rfl⟩:=hxv.slice;refine gS (V:=[.pointer (some ⟨b3,0+0,none⟩),.int .i64 r.place,.bool false,.bool false,.agg ⟨aI r (.slice sad r.b.l.length scap)⟩,.pointer (some ⟨p,0,none⟩),.pointer (some ⟨p,0,none⟩),.pointer (some ⟨p,0+1,none⟩),.slice (some ⟨g,0,none⟩) s.l.length vcap,.pointer (some ⟨b3,0+0,none⟩),.int .i64 r.place,.int .i64 (i:Int),.pointer (some ⟨g,0+i*5,none⟩),.agg ⟨aI x (.slice tad x.b.l.length tcap)⟩,.bool (jS r x),.bool (!jS r x),.bool (!jS r x)])
      (Rs:=fun D=>aA g cur 68::aA p [.pointer (some ⟨pf,0,none⟩),.slice (some ⟨g,0,none⟩) s.l.length vcap] 186::aU H pf s.f::aA b3 (aI r (.slice sad r.b.l.length scap)) 68::Fz H::R) hs hw (ho:=⟨?_,?_,?c2_4,?_,?_,?_,?_,?_,?_,?_,?_,?c11_4,?c12_4,?c13_4,?c14_4,?_,?_,trivial⟩) (k:=?k_4)
     case c2_4=>
      intro LD D a W hcl hi hp hs hw;refine zA hs hw ?_;clear hs;intro a hs;rw [h1] at hs;exact ⟨hs,hw⟩
     case c11_4=>
      intro LD D a W hcl hi hp hs hw;refine zA hs hw ?_;clear hs;intro a hs;rw [hwrap] at hs;exact ⟨hs,hw⟩
     case c12_4=>
      intro LD D a W hcl hi hp hs hw;refine zG hs ?_;refine eL hs (z:=zrc) (h0:=by omega) (h1:=by omega) (c:=?_);clear hs;intro a hs;refine zG hs ?_;exact ⟨hs,hw⟩
     case c13_4=>
      intro LD D a W hcl hi hp hs hw;refine zG hs ?_;refine eC (z:=zrc) hs (cs:=aI x (.slice tad x.b.l.length tcap)) (hc:=fun j u h=>by rw [hC (hw.block In.hd).1,Nat.zero_add];exact hcut2 j u h) (hl:=by rfl) (c:=?_);clear hs;intro a hs;refine zG hs ?_;exact ⟨hs,hw⟩
     case c14_4=>
      intro LD D a W hcl hi hp hs hw;refine zG hs ?_;refine aH hs (hc:=aFW r x _ _ _ (hw.rdH inn hr) (hw.rdH inn hxv)) (k:=?_);rintro e0 W1 ⟨rfl,hb⟩;refine ⟨_,rfl,?_⟩;clear hs;intro a hs;replace hw:=hw.below hb;clear hb;refine zG hs ?_;exact ⟨hs,hw⟩
     case k_4=>
      clear hs hw;intro a W hs hw;replace hs:Slots a 74 [(37,.bool (!jS r x))]:=hs.ot;replace hw:Has 0 w0 W (aA g cur 68::aA p [.pointer (some ⟨pf,0,none⟩),.slice (some ⟨g,0,none⟩) s.l.length vcap] 186::aU H pf s.f::aA b3 (aI r (.slice sad r.b.l.length scap)) 68::Fz H::R):=hw;have hw:=hw.shut_own (k:=s.l.length) (size:=5) hcur hcl0 hkc hcm;have hw:Has 0 w0 W (aA p [.pointer (some ⟨pf,0,none⟩),.slice (some ⟨g,0,none⟩) s.l.length vcap] 186::aU H pf s.f::Sx.Own 68 5 (.slice (some ⟨g,0,none⟩) s.l.length vcap) s.l.length xs::aA b3 (aI r (.slice sad r.b.l.length scap)) 68::Fz H::R):=hw.pm;have hw:=jA hw hch;cases hsm:jS r x with
      |true=>
       rw [hsm] at hs;refine zA hs hw ?_;clear hs;intro a hs;exact rt2 hs rfl rfl rfl ⟨H,rfl,Fh.le.refl _,hw.drop2⟩
      |false=>
       rw [hsm] at hs;refine zA hs hw ?_;clear hs;intro a hs;exact rt2 hs rfl rfl rfl ⟨H,rfl,Fh.le.refl _,hw.drop2⟩
     all_goals
      intro LD D a W hcl hi hp hs hw;refine zA hs hw ?_;clear hs;intro a hs;exact ⟨hs,hw⟩
   |false=>
   rw [h15] at hs;have g15:=of_decide_eq_false h15;have hX:one s r=if (next s.f r.b).2.2=true∧(next s.f r.b).2.1.err=r.err then (⟨(next s.f r.b).1,s.l ++ [r]⟩,true,0) else (s,false,1):=by unfold one;rw [if_neg g9,if_neg g15]
   obtain ⟨pf,vad,vcap,xs,hch,hw⟩:=mM hw;refine zC hs hw ?_;clear hs;intro a hs;refine aH hs (hc:=aA8 w0 _ H pf s.f _ hw.swap2) (k:=?_);rintro e0 W1 ⟨q,rfl,hw1⟩;refine ⟨_,rfl,?_⟩;clear hs hw;intro a hs;have hw:=hw1;clear hw1;have hw:Has 0 w0 _ (aU H q s.f::Fz H::aA p [.pointer (some ⟨pf,0,none⟩),.slice vad s.l.length vcap] 186::aU H pf s.f::Sx.Own 68 5 (.slice vad s.l.length vcap) s.l.length xs::aA b3 (aI r (.slice sad r.b.l.length scap)) 68::R):=hw.pm;refine zA hs hw ?_;clear hs;intro a hs;refine aH hs (hc:=wG w0 _ H q s.f r.b _ _ hb hr hH hT hw) (k:=?_);rintro e0 W1 ⟨xv,H1,rfl,hle0,hxv,hw1⟩;refine ⟨_,rfl,?_⟩;clear hs hw;intro a hs;have hw:=hw1;clear hw1;replace hr:=hr.le hle0;obtain ⟨x,hxe⟩:∃x,(next s.f r.b).2.1=x:=⟨_,rfl⟩
   obtain ⟨f1,hfe⟩:∃x,(next s.f r.b).1=x:=⟨_,rfl⟩
   obtain ⟨ok,hoe⟩:∃x,(next s.f r.b).2.2=x:=⟨_,rfl⟩
   have hr8:ok=true→r.b.l.length≤1000:=fun h=>by
    have:i9 s.f r.b=true:=by
     unfold next at hoe;cases hn:i9 s.f r.b with
     |true=>rfl
     |false=>rw [hn] at hoe;rw [←hoe] at h;cases h
    unfold i9 at this;have:=(wF (Bool.and_eq_true _ _ |>.mp this).1).2.2;omega
   rw [hxe] at hs hxv hX;rw [hoe] at hs hX;rw [hfe] at hX hw;obtain ⟨xad,xcap,rfl⟩:=hxv.slice
   repeat (first|(refine sxv hs hw ?_;clear hs;intro a hs)|refine sxc hs ?_|(refine sxa hs hw ?_;clear hs hw;intro a b W hw hs)|(refine sxs hs hw ?_;clear hs hw;intro W hs hw))
   obtain ⟨b7,q7⟩:=nm1 hw;subst q7;have hw:Has 0 w0 _ (aU H pf s.f::aA p [.pointer (some ⟨pf,0,none⟩),.slice vad s.l.length vcap] 186::Sx.Own 68 5 (.slice vad s.l.length vcap) s.l.length xs::Fz H1::aU H1 q f1::aA b7 (aI x (.slice xad x.b.l.length xcap)) 68::aA b3 (aI r (.slice sad r.b.l.length scap)) 68::R):=hw.pm;have hw:=(j7 hw hle0).swap2;replace hch:=hch.mono (RowIn.le hle0);have hend:(∃H',Ending.returned (Value.tuple ⟨[.bool (s,false,(1:Int)).2.1,.int .i64 (s,false,(1:Int)).2.2]⟩)=Ending.returned (Value.tuple ⟨[.bool false,.int .i64 1]⟩)∧H.le H'):=⟨H,rfl,Fh.le.refl _⟩
   cases ok with
   |false=>
    rw [hX,if_neg (fun h=>by cases h.1)];refine zA hs hw ?_;clear hs;intro a hs;exact rt2 hs rfl rfl rfl ⟨H1,rfl,hle0,(jA hw hch).sub (List.Sublist.cons_cons _ (List.Sublist.cons_cons _ (List.Sublist.cons _ (List.Sublist.cons _ (List.Sublist.cons _ (List.Sublist.refl _))))))⟩
   |true=>
   refine zA hs hw ?_;clear hs;intro a hs;cases he:(x.err !=r.err) with
   |true=>
    rw [he] at hs;rw [hX,if_neg (fun h=>by rw [h.2] at he;simp at he)];refine zA hs hw ?_;clear hs;intro a hs;exact rt2 hs rfl rfl rfl ⟨H1,rfl,hle0,(jA hw hch).sub (List.Sublist.cons_cons _ (List.Sublist.cons_cons _ (List.Sublist.cons _ (List.Sublist.cons _ (List.Sublist.cons _ (List.Sublist.refl _))))))⟩
   |false=>
   rw [he] at hs;have hone:one s r=(⟨f1,s.l ++ [r]⟩,true,0):=by rw [hX,if_pos ⟨rfl,by simpa using he⟩]
   clear hX hend;replace hr8:=hr8 rfl;refine zB hs hw ?_;clear hs hw;intro a W hs hw;have hw:Has 0 w0 _ (aA p [.pointer (some ⟨q,0,none⟩),.slice vad s.l.length vcap] 186::Fz H1::bT::Sx.Own 68 5 (.slice vad s.l.length vcap) s.l.length xs::aU H1 q f1::aA b7 (aI x (.slice xad x.b.l.length xcap)) 68::aA b3 (aI r (.slice sad r.b.l.length scap)) 68::aU H1 pf s.f::R):=hw.free.pm;refine fV (σ:=Value×Fh×Nat×Option Addr) (V:=fun u=>[.pointer (some ⟨p,0,none⟩),.pointer (some ⟨p,0,none⟩),.pointer (some ⟨p,0,none⟩),.pointer (some ⟨p,0+1,none⟩),.slice vad s.l.length vcap,.agg ⟨aI r (.slice sad r.b.l.length scap)⟩,.agg ⟨aI r (u 6).1⟩,.slice (some ⟨(u 7).2.2.1,0,none⟩) 1 1,.slice (u 8).2.2.2 (s.l ++ [r]).length (u 8).2.2.1,.pointer (some ⟨p,0,none⟩),.pointer (some ⟨p,0+1,none⟩),.bool true])
    (Rs:=fun u D=>aA p [.pointer (some ⟨q,0,none⟩),(if D 11 then .slice (u 8).2.2.2 (s.l ++ [r]).length (u 8).2.2.1 else .slice vad s.l.length vcap)] 186::(if D 6 then FzF (u 6).2.1 (H1.le (u 6).2.1∧cG (u 6).2.1 (u 6).1 r.b.l) else Fz H1)::(if D 7 then aA (u 7).2.2.1 (aI r (u 6).1) 68 else bT)::(if D 8 then Sx.Own 68 5 (.slice (u 8).2.2.2 (s.l ++ [r]).length (u 8).2.2.1) (s.l ++ [r]).length (xs ++ aI r (u 6).1) else Sx.Own 68 5 (.slice vad s.l.length vcap) s.l.length xs)::aU H1 q f1::aA b7 (aI x (.slice xad x.b.l.length xcap)) 68::aA b3 (aI r (.slice sad r.b.l.length scap)) 68::aU H1 pf s.f::R) (fun _=>(.nilIface,H1,0,none)) hs hw (hVu:=?vu_6) (ho:=⟨?_,?_,?_,?_,?c4_6,?_,?c6_6,?c7_6,?c8_6,?_,?_,?c11_6,trivial⟩) (k:=?k_6)
   case vu_6=>
    intro u u' j h;rcases j with _|_|_|_|_|_|_|_|_|_|_|j
    all_goals first|rfl|simp [h]
   case c4_6=>
    intro u LD D a W hcl hi hp hs hw;have h8:=Go.Sx.not_done hcl hi 8 (by kernel_rfl);have h11:=Go.Sx.not_done hcl h8 11 (by kernel_rfl);have hw0:=hw;simp only [h11,Bool.false_eq_true,if_false] at hw;refine zA hs hw ?_;clear hs;intro a hs;exact Or.inl ⟨hs,hw0⟩
   case c6_6=>
    intro u LD D a W hcl hi hp hs hw;have h7:=Go.Sx.not_done hcl hi 7 (by kernel_rfl);have h8:=Go.Sx.not_done hcl h7 8 (by kernel_rfl);have h11:=Go.Sx.not_done hcl h8 11 (by kernel_rfl);simp only [hi,h7,h8,h11,Bool.false_eq_true,if_false] at hw
    repeat (first|(refine sxv hs hw ?_;clear hs;intro a hs)|refine sxc hs ?_|(refine sxa hs hw ?_;clear hs hw;intro a b W hw hs)|(refine sxs hs hw ?_;clear hs hw;intro W hs hw))
    have hw:Has 0 w0 W (Fz H1::aA p [.pointer (some ⟨q,0,none⟩),.slice vad s.l.length vcap] 186::bT::Sx.Own 68 5 (.slice vad s.l.length vcap) s.l.length xs::aU H1 q f1::aA b7 (aI x (.slice xad x.b.l.length xcap)) 68::aA b3 (aI r (.slice sad r.b.l.length scap)) 68::aU H1 pf s.f::R):=hw.pm;refine aH hs (hc:=aA9 w0 _ H1 r _ _ hr8 hr hw) (k:=?_);rintro e0 W1 ⟨sv',H',rfl,h1,h2,hw1⟩;refine ⟨_,rfl,?_⟩;clear hs hw;intro a hs;have hw:=hw1;clear hw1;refine zG hs ?_;refine Or.inr ⟨(sv',H',0,none),hs,?_⟩;have hw:=hw.fzf (q:=H1.le H'∧cG H' sv' r.b.l) ⟨h1,h2⟩;show Has 0 w0 _ (aA p [_,(if (Nat.beq 11 6 || D 11)=true then _ else _)] _::_::(if (Nat.beq 7 6 || D 7)=true then _ else _)::(if (Nat.beq 8 6 || D 8)=true then _ else _)::_);rw [h7,h8,h11];exact hw.pm
   case c7_6=>
    intro u LD D a W hcl hi hp hs hw;have h6:=Go.Sx.done hp 6 (by kernel_rfl);have h8:=Go.Sx.not_done hcl hi 8 (by kernel_rfl);have h11:=Go.Sx.not_done hcl h8 11 (by kernel_rfl);simp only [hi,h6,h8,h11,Bool.false_eq_true,if_false,if_true] at hw
    repeat (first|(refine sxv hs hw ?_;clear hs;intro a hs)|refine sxc hs ?_|(refine sxa hs hw ?_;clear hs hw;intro a b W hw hs)|(refine sxs hs hw ?_;clear hs hw;intro W hs hw))
    refine Or.inr ⟨(.nilIface,H1,_,none),hs,?_⟩;show Has 0 w0 _ (aA p [_,(if (Nat.beq 11 7 || D 11)=true then _ else _)] _::(if (Nat.beq 6 7 || D 6)=true then _ else _)::_::(if (Nat.beq 8 7 || D 8)=true then _ else _)::_);rw [h6,h8,h11];exact hw.fill (Upd.tl (Upd.tl Upd.hd))
   case c8_6=>
    intro u LD D a W hcl hi hp hs hw;have h7:=Go.Sx.done hp 7 (by kernel_rfl);have h6:=Go.Sx.done (hcl 7 _ rfl h7) 6 (by kernel_rfl);have h11:=Go.Sx.not_done hcl hi 11 (by kernel_rfl);simp only [hi,h6,h7,h11,Bool.false_eq_true,if_false,if_true] at hw;have hw:Has 0 w0 W (FzF (u 6).2.1 (H1.le (u 6).2.1∧cG (u 6).2.1 (u 6).1 r.b.l)::Sx.Own 68 5 (.slice vad s.l.length vcap) s.l.length xs::aA p [.pointer (some ⟨q,0,none⟩),.slice vad s.l.length vcap] 186::aA (u 7).2.2.1 (aI r (u 6).1) 68::aU H1 q f1::aA b7 (aI x (.slice xad x.b.l.length xcap)) 68::aA b3 (aI r (.slice sad r.b.l.length scap)) 68::aU H1 pf s.f::R):=hw.pm;obtain ⟨⟨hle,hv⟩,_⟩:=hw.unfzf;have hw:Has 0 w0 W (Sx.Own 68 5 (.slice vad s.l.length vcap) s.l.length xs::FzF (u 6).2.1 (H1.le (u 6).2.1∧cG (u 6).2.1 (u 6).1 r.b.l)::aA p [.pointer (some ⟨q,0,none⟩),.slice vad s.l.length vcap] 186::aA (u 7).2.2.1 (aI r (u 6).1) 68::aU H1 q f1::aA b7 (aI x (.slice xad x.b.l.length xcap)) 68::aA b3 (aI r (.slice sad r.b.l.length scap)) 68::aU H1 pf s.f::R):=hw.swap2;have hone:=RowIn.ones (H:=(u 6).2.1) r (aI r (u 6).1) ⟨_,rfl,hv⟩;refine i6 hs (hw:=hw) (hi:=In.tl (In.tl In.hd)) (ch:=hch.mono (RowIn.le hle)) (ha:=(⟨_,rfl,hv⟩:RowIn (u 6).2.1 r (aI r (u 6).1))) (hl:=rfl) (h1:=by rw [List.all_eq_true];exact hone) (hb:=by omega) (h63:=by omega) (k:=?_);clear hs hw;intro a ad cap W hs hw hc2;refine zG hs ?_;refine Or.inr ⟨(.nilIface,H1,cap,ad),hs,?_⟩;show Has 0 w0 _ (aA p [_,(if (Nat.beq 11 8 || D 11)=true then _ else _)] _::(if (Nat.beq 6 8 || D 6)=true then _ else _)::(if (Nat.beq 7 8 || D 7)=true then _ else _)::_::_);rw [h6,h7,h11];exact hw.pm
   case c11_6=>
    intro u LD D a W hcl hi hp hs hw;have h8:=Go.Sx.done hp 8 (by kernel_rfl);simp only [hi,h8,Bool.false_eq_true,if_false,if_true] at hw
    repeat (first|(refine sxv hs hw ?_;clear hs;intro a hs)|refine sxc hs ?_|(refine sxa hs hw ?_;clear hs hw;intro a b W hw hs)|(refine sxs hs hw ?_;clear hs hw;intro W hs hw))
    refine Or.inl ⟨hs,?_⟩;show Has 0 w0 _ (_::_::_::(if (Nat.beq 8 11 || D 8)=true then _ else _)::_);rw [h8];exact hw
   case k_6=>
    clear hs hw;intro u a W hs hw;replace hw:Has 0 w0 W (aA p [.pointer (some ⟨q,0,none⟩),.slice (u 8).2.2.2 (s.l ++ [r]).length (u 8).2.2.1] 186::FzF (u 6).2.1 (H1.le (u 6).2.1∧cG (u 6).2.1 (u 6).1 r.b.l)::aA (u 7).2.2.1 (aI r (u 6).1) 68::Sx.Own 68 5 (.slice (u 8).2.2.2 (s.l ++ [r]).length (u 8).2.2.1) (s.l ++ [r]).length (xs ++ aI r (u 6).1)::aU H1 q f1::aA b7 (aI x (.slice xad x.b.l.length xcap)) 68::aA b3 (aI r (.slice sad r.b.l.length scap)) 68::aU H1 pf s.f::R):=hw;replace hs:Slots a 74 [(0,.pointer (some ⟨p,0,none⟩))]:=hs.ot;generalize (u 8).2.2.2=ad at *;generalize (u 8).2.2.1=cap at *;generalize (u 7).2.2.1=bx at *;generalize (u 6).2.1=H2 at *;generalize (u 6).1=v2 at *;clear u;have hw:Has 0 w0 W (FzF H2 (H1.le H2∧cG H2 v2 r.b.l)::aA p [.pointer (some ⟨q,0,none⟩),.slice ad (s.l ++ [r]).length cap] 186::aU H1 q f1::Sx.Own 68 5 (.slice ad (s.l ++ [r]).length cap) (s.l ++ [r]).length (xs ++ aI r v2)::aA bx (aI r v2) 68::aA b7 (aI x (.slice xad x.b.l.length xcap)) 68::aA b3 (aI r (.slice sad r.b.l.length scap)) 68::aU H1 pf s.f::R):=hw.pm;obtain ⟨⟨hle,hv⟩,hw⟩:=hw.unfzf;have hw:Has 0 w0 W (aU H1 q f1::aA p [.pointer (some ⟨q,0,none⟩),.slice ad (s.l ++ [r]).length cap] 186::Sx.Own 68 5 (.slice ad (s.l ++ [r]).length cap) (s.l ++ [r]).length (xs ++ aI r v2)::Fz H2::R):=(hw.perm (B:=aU H1 q f1::aA p [.pointer (some ⟨q,0,none⟩),.slice ad (s.l ++ [r]).length cap] 186::Sx.Own 68 5 (.slice ad (s.l ++ [r]).length cap) (s.l ++ [r]).length (xs ++ aI r v2)::Fz H2::aA bx (aI r v2) 68::aA b7 (aI x (.slice xad x.b.l.length xcap)) 68::aA b3 (aI r (.slice sad r.b.l.length scap)) 68::aU H1 pf s.f::R) (by repeat (first|exact List.Perm.refl _|refine nJ (by repeat (first|exact Pick.hd|apply Pick.tl)) ?_))).sub (List.Sublist.cons_cons _ (List.Sublist.cons_cons _ (List.Sublist.cons_cons _ (List.Sublist.cons_cons _ (List.Sublist.cons _ (List.Sublist.cons _ (List.Sublist.cons _ (List.Sublist.cons _ (List.Sublist.refl _)))))))));have hw:=(j7 hw hle).swap2;have hw:=jA (s:=⟨f1,s.l ++ [r]⟩) hw ((hch.mono (RowIn.le hle)).app (Ch.unit ⟨_,rfl,hv⟩));refine zA hs hw ?_;clear hs;intro a hs;rw [hone];refine rt2 hs rfl rfl rfl ?_;exact ⟨H2,rfl,hle0.trans hle,hw⟩
   all_goals
    intro u LD D a W hcl hi hp hs hw;refine zA hs hw ?_;clear hs;intro a hs;exact Or.inl ⟨hs,hw⟩
  all_goals
   intro LD D a W hcl hi hp hs hw;refine zA hs hw ?_;clear hs;intro a hs;exact ⟨hs,hw⟩
 all_goals
  intro LD D a W hcl hi hp hs hw;refine zA hs hw ?_;clear hs;intro a hs;exact ⟨hs,hw⟩
end Go.Proofs.YtgpbngfehfbndaaGreatDoor.Sw
namespace Go.Sx
end Go.Sx
namespace Go.Proofs.YtgpbngfehfbndaaGreatDoor.Sw
open Go.RowKit Go.Sx
def aAf (H:Fh) (v:Value) (l:List cT):Prop:=∃xs,RdH H 3 v l.length xs∧Ch (BatIn H) l xs
def aAy (f:dZ) (c:Int):cC:=if 1≤c∧c≤5 then ((f.told[c.toNat]?).map (·.2)).getD zeroRow else zeroRow
def cL (f:dZ) (c:Int):cC:=if cN f c=0 then zeroRow else aAy f c
theorem aGD (w0 W:World) (H:Fh) (p:Nat) (f:dZ) (c:Int) (R:List Res) (h8:∀x∈f.told,x.2.b.l.length≤8) (hw:Has 0 w0 W (aU H p f::Fz H::R)):
  Calls Tryz.prog 247 ⟨[.pointer (some ⟨p,0,none⟩),.int .i64 c]⟩ W fun e W'=>∃sv H',e= .returned (.tuple ⟨[.agg ⟨aI (cL f c) sv⟩,.bool (!(cN f c == 0))]⟩)∧H.le H'∧cG H' sv (cL f c).b.l∧Has 0 w0 W' (aU H p f::Fz H'::R):=by
 refine en Tryz.func247 Tryz.ntmps247 fun a hs=>?_
 repeat (first|(refine sxv hs hw ?_;clear hs;intro a hs)|refine sxc hs ?_|(refine sxa hs hw ?_;clear hs hw;intro a b W hw hs)|(refine sxs hs hw ?_;clear hs hw;intro W hs hw)|((with_reducible first|refine gD hs (k:=?_)|refine gE hs (k:=?_));clear hs;intro a hs))
 obtain ⟨b4,q4⟩:=nm1 hw;subst q4;refine aH hs (hc:=r9 w0 _ H p f c _ hw.swap2) (k:=?_);rintro e0 W1 ⟨rfl,hw1⟩;refine ⟨_,rfl,?_⟩;clear hs hw;intro a hs;have hw:=hw1;clear hw1;refine zC hs hw ?_;clear hs;intro a hs;cases h0:(cN f c == 0) with
 |true=>
  rw [h0] at hs;have hT:cL f c=zeroRow:=by unfold cL;rw [if_pos (by simpa using h0)]
  refine zD hs hw ?_;clear hs hw;intro a W hs hw;refine rc2 hs rfl rfl hw (In.tl In.hd) rfl rfl ?_;rw [hT];exact ⟨.slice none 0 0,H,rfl,Fh.le.refl _,j6 H,hw.sub (List.Sublist.cons_cons _ (List.Sublist.cons _ (List.Sublist.refl _)))⟩
 |false=>
  rw [h0] at hs;have h0':¬cN f c=0:=by simpa using h0
  have hc:1≤c∧c≤5:=by
   by_cases hc:1≤c∧c≤5
   ·exact hc
   ·exfalso;apply h0';unfold cN;rw [if_neg hc]
  obtain ⟨pd,xs,ht,hw⟩:=pJ hw;obtain ⟨x,hx⟩:∃x,f.told[c.toNat]? =some x:=⟨f.told[c.toNat]'(by rw [ht.1];omega),List.getElem?_eq_getElem _⟩
  have hT:cL f c=x.2:=by unfold cL aAy;rw [if_neg h0',if_pos hc,hx];rfl
  have hx8:=h8 x (List.mem_of_getElem? hx);obtain ⟨sv,hsv,h6⟩:=aA5 ht hx;rw [hT];refine zC hs hw ?_;clear hs;intro a hs;refine lM hs (h0:=by omega) (h1:=by omega) (c:=?_);clear hs;intro a hs;refine zC hs hw ?_;clear hs;intro a hs;refine eC (z:=zrc) hs (cs:=aI x.2 sv) (hc:=fun j u hu=>?hcc) (hl:=rfl) (c:=?_)
  case hcc=>
   rw [hC (hw.block In.hd).1];show (dA f.place pd xs)[0+2+c.toNat*6+1+j]? =_;rw [show 0+2+c.toNat*6+1+j=c.toNat*6+(j+1)+1+1 by omega];have h9:=congrArg (fun t=>t[j+1]?) h6;simp only [gB,List.getElem?_take,List.getElem?_drop,List.getElem?_cons_succ] at h9;rw [hu] at h9;split at h9
   ·simpa [dA] using h9
   ·cases h9
  clear hs;intro a hs;have hw:Has 0 w0 _ (Fz H::aA p (dA f.place pd xs) 271::cK pd f.d::aA b4 zrc 68::R):=hw.pm;refine aH hs (hc:=wE w0 _ H x.2 sv _ (by omega) hsv hw) (k:=?_);rintro e0 W1 ⟨sv',H',rfl,hle,hsv',hw1⟩;refine ⟨_,rfl,?_⟩;clear hs hw;intro a hs;have hw:=hw1;clear hw1;obtain ⟨tad,tcap,rfl⟩:=hsv'.slice;refine zD hs hw ?_;clear hs hw;intro a W hs hw;refine rc2 hs rfl rfl hw (In.tl (In.tl (In.tl In.hd))) rfl rfl ?_;have hw:Has 0 w0 _ (aA p (dA f.place pd xs) 271::cK pd f.d::aA b4 (aI x.2 (.slice tad x.2.b.l.length tcap)) 68::Fz H'::R):=hw.pm;exact ⟨_,H',rfl,hle,hsv',(mL hw ht).sub (List.Sublist.cons_cons _ (List.Sublist.cons _ (List.Sublist.refl _)))⟩
end Go.Proofs.YtgpbngfehfbndaaGreatDoor.Sw
