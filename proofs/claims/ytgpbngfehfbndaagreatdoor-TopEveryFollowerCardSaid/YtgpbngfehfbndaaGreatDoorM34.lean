/-
  Texts of the proof, one behind the other (part 34).
-/
import Derived.Test.YtgpbngfehfbndaaGreatDoorM33
import Derived.Test.YtgpbngfehfbndaaGreatDoorChecked
import Derived.Test.YtgpbngfehfbndaaGreatDoorProg
set_option maxHeartbeats 16000000
set_option linter.unusedVariables false
set_option maxRecDepth 10000
namespace Go.Proofs.YtgpbngfehfbndaaGreatDoor.Sw
open Go.RowKit Go.Sx
section
variable {H H':Fh} {p q pk pr pt:Nat} {s s':cN} {w0 W:World} {R L:List Res} {d d':bF} {k k':dX} {o:fQ} {ms:List bS} {t:dU}
theorem aCj (c:Int) (hw:Has 0 w0 W (aO H pt t::R)):
  Calls Tryz.prog 177 ⟨[ptr pt,.int .i64 c]⟩ W fun e W'=>e= .returned (.int .i64 (cT t.f c))∧Has 0 w0 W' (aO H pt t::R):=by
 obtain ⟨pf,ad,cap,xs,hc,hw⟩:=lE hw;refine enter Tryz.func177 Tryz.ntmps177 rfl rfl fun a hs=>?_;refine sv hs hw fun a hs=>?_;refine cl hs (sY w0 _ H pf t.f c _ hw.swap2) fun a W hs hw=>?_;refine sv hs hw fun a hs=>?_;exact rt1 hs rfl rfl ⟨rfl,gD hw.swap2 hc⟩
theorem aCk (c:Int) (h8:∀x∈t.f.told,x.2.b.l.length≤8) (hw:Has 0 w0 W (aO H pt t::Fz H::R)):
  Calls Tryz.prog 178 ⟨[ptr pt,.int .i64 c]⟩ W fun e W'=>∃(sv:Value) (H':Fh),e= .returned (.tuple ⟨[.agg ⟨aJ (cO t.f c) sv⟩,.bool (!(cT t.f c == 0))]⟩)∧H.le H'∧cL H' sv (cO t.f c).b.l∧Has 0 w0 W' (aO H' pt t::Fz H'::R):=by
 obtain ⟨pf,ad,cap,xs,hc,hw⟩:=lE hw;refine enter Tryz.func178 Tryz.ntmps178 rfl rfl fun a hs=>?_;refine sc hs ?_;refine sn hs hw fun b4 a W hs hw=>?_;refine sv hs hw fun a hs=>?_;have hw:Has 0 w0 W (aY H pf t.f::Fz H::aA pt [.int .i64 t.ix,.pointer (some ⟨pf,0,none⟩),.slice ad t.rows.length cap] 201::Sx.Own 68 5 (.slice ad t.rows.length cap) t.rows.length xs::aA b4 zrc 68::R):=hw.pm;refine aG hs (hc:=aGt w0 _ H pf t.f c _ h8 hw) (k:=?_);rintro e' W' ⟨sv,H',rfl,hle,hop,hw⟩;refine ⟨_,rfl,fun a hs=>?_⟩;obtain ⟨oad,ocap,rfl⟩:=hop.slice;have hw:=hw.lz hle;refine sx hs hw fun a W hs hw=>?_;refine rc2 hs rfl rfl hw inn rfl rfl ⟨_,H',rfl,hle,hop,?_⟩;have hw:Has 0 w0 W (aA pt [.int .i64 t.ix,.pointer (some ⟨pf,0,none⟩),.slice ad t.rows.length cap] 201::aY H' pf t.f::Sx.Own 68 5 (.slice ad t.rows.length cap) t.rows.length xs::Fz H'::R):=hw.sl;exact gD hw (hc.mono (RowIn.le hle))
theorem aIU (hw:Has 0 w0 W (cC H p q s::R)):Calls Tryz.prog 44 ⟨[ptr p]⟩ W fun e W'=>e= .returned (.bool false)∧Has 0 w0 W' (cC H p q s::R):=by
 obtain ⟨h1,h2,pk,pr,pt,hw⟩:=iY hw;refine enter Tryz.func44 Tryz.ntmps44 rfl rfl fun a hs=>?_;refine sv hs hw fun a hs=>?_;exact rt1 hs rfl rfl ⟨rfl,gN hw h1 h2⟩
theorem uI (hw:Has 0 w0 W (aP p pk pr pt::R)):Calls Tryz.prog 20 ⟨[ptr p]⟩ W fun e W'=>e= .returned (ptr pr)∧Has 0 w0 W' (aP p pk pr pt::R):=by
 refine enter Tryz.func20 Tryz.ntmps20 rfl rfl fun a hs=>?_;refine sv hs hw fun a hs=>?_;exact rt1 hs rfl rfl ⟨rfl,hw⟩
theorem oT {r:cF} (h:mG r=true):jV r∧r.b.l.length≤8:=by
 unfold mG nF gY at h;simp only [Bool.and_eq_true,decide_eq_true_eq,List.all_eq_true] at h;refine ⟨⟨⟨h.1.1.1,h.1.1.2⟩,⟨h.1.2.1,h.1.2.2⟩,⟨⟨h.2.1.1.1.1,h.2.1.1.1.2⟩,⟨h.2.1.1.2.1,h.2.1.1.2.2⟩,fun o ho=>?_⟩⟩,h.2.2⟩;have h1:=h.2.1.2 o ho;unfold tH gY at h1;simp only [Bool.and_eq_true,decide_eq_true_eq] at h1;obtain ⟨⟨⟨⟨⟨⟨⟨⟨a1,a2⟩,a3⟩,a4⟩,a5⟩,a6⟩,a7⟩,a8⟩,a9⟩:=h1;exact ⟨a1,a2,a3,a4,a5,a6,a7,a8,a9⟩
theorem aIV (fr_:Int) (hw:Has 0 w0 W (cC H p q s::Fz H::R)):
  Calls Tryz.prog 104 ⟨[ptr p,.int .i64 fr_]⟩ W fun e W'=>∃(v:Value) (H':Fh),e= .returned (.tuple ⟨[v,.int .i64 0]⟩)∧H.le H'∧iC H' v (gE s.t fr_ 10)∧Has 0 w0 W' (cC H' p q s::Fz H'::R):=by
 obtain ⟨h1,h2,pk,pr,pt,hw⟩:=iY hw;have ht:=mJ h2;refine enter Tryz.func104 Tryz.ntmps104 rfl rfl fun a hs=>?_;refine sv hs hw fun a hs=>?_;have hw:Has 0 w0 W (aO H pt s.t::Fz H::aP p pk pr pt::aV pk q s.k::aF H pr s.r::R):=hw.pm;refine aG hs (hc:=aBg w0 _ H pt s.t fr_ 10 _ (by omega) (fun r hr=>by have:=(oT (ht.2.1 r hr)).2;omega) hw) (k:=?_);rintro e' W' ⟨v,H',rfl,hle,hro,hw⟩;refine ⟨_,rfl,fun a hs=>?_⟩;refine sv hs hw fun a hs=>?_;have hw:=hw.lz hle;have hw:Has 0 w0 W' (aP p pk pr pt::aV pk q s.k::aF H' pr s.r::aO H' pt s.t::Fz H'::R):=hw.pm;exact rt2 hs rfl rfl rfl ⟨v,H',rfl,hle,hro,gN hw h1 h2⟩
end
section
variable {H H':Fh} {p q ps:Nat} {w0 W:World} {R L:List Res} {u:cZ} {s:eL} {d d':bF}
def nameQ:ByteArray:=⟨#[113,117,101,117,101]⟩
theorem aIW:lM nameQ.data.toList=true:=by decide
theorem aIX:nameQ.size≤1000:=by decide
theorem aCl (c:Int) (hw:Has 0 w0 W (bA H ps s::R)):
  Calls Tryz.prog 238 ⟨[ptr ps,.int .i64 c]⟩ W fun e W'=>e= .returned (.int .i64 (cT s.f c))∧Has 0 w0 W' (bA H ps s::R):=by
 obtain ⟨pf,ad,cap,xs,hc,hw⟩:=mA hw;refine enter Tryz.func238 Tryz.ntmps238 rfl rfl fun a hs=>?_;refine sv hs hw fun a hs=>?_;refine cl hs (sY w0 _ H pf s.f c _ hw.swap2) fun a W hs hw=>?_;refine sv hs hw fun a hs=>?_;exact rt1 hs rfl rfl ⟨rfl,iP hw.swap2 hc⟩
theorem aIY {n:Nat} {v:Value} {xs:List Value} (h1:∀u∈xs,u.oneCell'=true) (hl:n≤1000000) (hr:∀{W},Has 0 w0 W R→Rd W 5 v n xs) (hw:Has 0 w0 W R):
  Calls Tryz.prog 279 ⟨[v]⟩ W fun e W'=>∃s:Option Addr×Nat,e= .returned (.slice s.1 n s.2)∧True∧Has 0 w0 W' (Sx.Own 68 5 (.slice s.1 n s.2) n xs::R):=by
 have hxl:xs.length=n*5:=by obtain ⟨h,_⟩:=hr hw;exact h
 obtain ⟨ad,cap,rfl⟩:∃ad cap,v= .slice ad n cap:=by obtain ⟨_,ad,cap,e,_⟩:=hr hw;exact ⟨ad,cap,e⟩
 refine enter Tryz.func279 Tryz.ntmps279 rfl rfl fun a hs=>?_;refine sv hs hw fun a hs=>?_;refine k7 hs (c:=fun a hs=>?_);cases ad with
 |none=>
  refine sv hs hw fun a hs=>?_;have h0:n=0:=by
   obtain ⟨_,ad,cap,e,_,_,h|⟨b,o,h,_⟩⟩:=hr hw
   ·exact h
   ·injection e with e1 _ _;rw [←e1] at h;cases h
  subst h0;obtain rfl:xs= []:=List.eq_nil_of_length_eq_zero (by omega);exact rt1 hs rfl rfl ⟨(none,0),rfl,trivial,hw.nilOwn 68 5⟩
 |some A=>
  rw [show (some A).isNone=false from rfl] at hs;refine sc hs ?_;refine pQ hs hw (c:=fun a ad W hw hs=>?_);refine sv hs hw fun a hs=>?_;refine kZ hs (hw:=hw) (k:=0) (m:=n) (xs:=[]) (news:=xs) (hsrc:=fK (hr (hw.d1)) h1) (h63:=by omega) (hb:=by omega) (c:=fun a ad2 cap2 W hs hw=>?_);rw [List.nil_append,Nat.zero_add] at hw;rw [Nat.zero_add] at hs;refine sv hs hw fun a hs=>?_;exact rt1 hs rfl rfl ⟨(ad2,cap2),rfl,trivial,hw⟩
theorem aIZ (hl:s.l.length≤1000000) (hw:Has 0 w0 W (bA H ps s::R)):
  Calls Tryz.prog 248 ⟨[ptr ps]⟩ W fun e W'=>∃q:Nat,e= .returned (ptr q)∧True∧Has 0 w0 W' (bA H q s::bA H ps s::R):=by
 obtain ⟨pf,ad,cap,xs,hc,hw⟩:=mA hw;refine enter Tryz.func248 Tryz.ntmps248 rfl rfl fun a hs=>?_;refine zA hs hw ?_;clear hs;intro a hs;refine bG [4,9,11] [.f 0 0,.f 0 0,.f 0 0,.f 0 0,.m 0,.f 0 1,.f 0 1,.f 0 1,.f 0 1,.m 1,.f 2 2,.m 2,.f 3 3] [.c0 _,.c0 _,.c0 _,.c0 _,.c1 (fun x=>ptr x.n),.c0 _,.c0 _,.c0 _,.c0 _,.c2 (fun x y=> .slice y.ad s.l.length y.cap),.c2 _,.c3 (fun x y z=>ptr z.n),.c3 _] (aA ps [.pointer (some ⟨pf,0,none⟩),.slice ad s.l.length cap] 186::aY H pf s.f::Sx.Own 68 5 (.slice ad s.l.length cap) s.l.length xs::R) (fun x=>aY H x.n s.f::aA ps [.pointer (some ⟨pf,0,none⟩),.slice ad s.l.length cap] 186::aY H pf s.f::Sx.Own 68 5 (.slice ad s.l.length cap) s.l.length xs::R) (fun x y=>Sx.Own 68 5 (.slice y.ad s.l.length y.cap) s.l.length xs::aY H x.n s.f::aA ps [.pointer (some ⟨pf,0,none⟩),.slice ad s.l.length cap] 186::aY H pf s.f::Sx.Own 68 5 (.slice ad s.l.length cap) s.l.length xs::R) (fun x y z=>aA z.n [.pointer (some ⟨x.n,0,none⟩),.slice y.ad s.l.length y.cap] 186::Sx.Own 68 5 (.slice y.ad s.l.length y.cap) s.l.length xs::aY H x.n s.f::aA ps [.pointer (some ⟨pf,0,none⟩),.slice ad s.l.length cap] 186::aY H pf s.f::Sx.Own 68 5 (.slice ad s.l.length cap) s.l.length xs::R) (fun x y z t=>[]) hs hw ?kk ⟨drs,drs,drs,drs,?m0,drs,drs,drs,drs,?m1,drs,drn,drs,trivial⟩
 case m0=>
  intro x y z t LD a W hs hw;have hw:Has 0 w0 W (aY H pf s.f::aA ps [.pointer (some ⟨pf,0,none⟩),.slice ad s.l.length cap] 186::Sx.Own 68 5 (.slice ad s.l.length cap) s.l.length xs::R):=hw.pm;refine aG hs (hc:=xS w0 _ H pf s.f _ hw) (k:=?_);rintro e' W' ⟨q,rfl,hw⟩;refine ⟨_,rfl,fun a hs=>?_⟩;exact ⟨{n:=q},hs,hw.pm⟩
 case m1=>
  intro x y z t LD a W hs hw;refine cle hs (aIY (hc.ones RowIn.ones) hl (fun h=>h.rd_own inn) hw) fun q a W _ hs hw=>?_;exact ⟨{ad:=q.1,cap:=q.2},hs,hw⟩
 case kk=>
 intro x y z a W hs hw;refine sc hs ?_;refine rt1 hs rfl rfl ⟨z.n,rfl,trivial,?_⟩;have hw:Has 0 w0 W (aA z.n [.pointer (some ⟨x.n,0,none⟩),.slice y.ad s.l.length y.cap] 186::aY H x.n s.f::Sx.Own 68 5 (.slice y.ad s.l.length y.cap) s.l.length xs::aA ps [.pointer (some ⟨pf,0,none⟩),.slice ad s.l.length cap] 186::aY H pf s.f::Sx.Own 68 5 (.slice ad s.l.length cap) s.l.length xs::R):=hw.pm;have hw:=iP hw hc;have hw:Has 0 w0 W (aA ps [.pointer (some ⟨pf,0,none⟩),.slice ad s.l.length cap] 186::aY H pf s.f::Sx.Own 68 5 (.slice ad s.l.length cap) s.l.length xs::bA H z.n s::R):=hw.pm;exact (iP hw hc).swap2
abbrev bJ (p q:Nat) (c:Int) (v:Value) (ps:Nat):Res:=aA p [ptr q,.int .i64 c,v,ptr ps] 183
def eM (H:Fh) (p q:Nat) (u:cZ):Res:=Ex fun x:Value×List Value×Nat=>bJ p q u.c x.1 x.2.2::Sx.Own 66 3 x.1 u.added.length x.2.1::bA H x.2.2 u.s::bO (Ch (BatIn H) u.added x.2.1∧gO u=true):: []
theorem lP {v:Value} {xs:List Value} (h:Has 0 w0 W (bJ p q u.c v ps::Sx.Own 66 3 v u.added.length xs::bA H ps u.s::R)) (hc:Ch (BatIn H) u.added xs) (ho:gO u=true):Has 0 w0 W (eM H p q u::R):=Has.shut (v,xs,ps) ((h.fact (And.intro hc ho)).pm)
theorem kV (h:Has 0 w0 W (eM H p q u::R)):gO u=true∧∃ps ad cap xs,Ch (BatIn H) u.added xs∧Has 0 w0 W (bJ p q u.c (.slice ad u.added.length cap) ps::Sx.Own 66 3 (.slice ad u.added.length cap) u.added.length xs::bA H ps u.s::R):=by
 obtain ⟨⟨v,xs,ps⟩,h⟩:=Has.open h;have h:Has 0 w0 W (bJ p q u.c v ps::Sx.Own 66 3 v u.added.length xs::bA H ps u.s::bO (Ch (BatIn H) u.added xs∧gO u=true)::R):=h;obtain ⟨h1,h2⟩:=h.told (In.tl (In.tl (In.tl In.hd)));have h3:Has 0 w0 W (Sx.Own 66 3 v u.added.length xs::bJ p q u.c v ps::bA H ps u.s::R):=h.sl;obtain ⟨ad,cap,rfl⟩:=h3.own_slice;exact ⟨h2,ps,ad,cap,xs,h1,h3.swap2⟩
theorem aCm (h:Has 0 w0 W (eM H p q u::R)) (hl:H.le H'):Has 0 w0 W (eM H' p q u::R):=by
 obtain ⟨h1,ps,ad,cap,xs,hc,h⟩:=kV h;have h:=aBZ (h.pm:Has 0 w0 W (bA H ps u.s::bJ p q u.c (.slice ad u.added.length cap) ps::Sx.Own 66 3 (.slice ad u.added.length cap) u.added.length xs::R)) hl;exact lP (h.pm) (hc.mono (BatIn.le hl)) h1
instance (H H':Fh) (p q:Nat) (u:cZ):g0 H H' (eM H p q u) (eM H' p q u):=⟨fun hl h=>aCm h hl⟩
structure oW (u:cZ):Prop where
 c:1≤u.c∧u.c≤5
 added:u.added.length≤1000∧∀b∈u.added,iB b∧b.l.length≤8
 rows:u.s.l.length≤1000∧∀r∈u.s.l,(jV r∧r.b.l.length≤8)∧dS r.b=true
 last:0≤cT u.s.f u.c∧cT u.s.f u.c≤(u.added.length:Int)
theorem mK {u:cZ} (h:gO u=true):oW u:=by
 unfold gO at h;simp only [Bool.and_eq_true,decide_eq_true_eq,List.all_eq_true] at h;obtain ⟨⟨⟨⟨⟨⟨⟨a1,a2⟩,a3⟩,a4⟩,a5⟩,a6⟩,a7⟩,a8⟩:=h;refine ⟨⟨a1,a2⟩,⟨a3,fun b hb=>?_⟩,⟨a5,fun r hr=>⟨oT (a6 r hr).1,(a6 r hr).2⟩⟩,⟨a7,a8⟩⟩;have:=oT (r:=⟨0,b,0⟩) (by unfold mG gY;rw [a4 b hb];rfl);exact ⟨this.1.b,this.2⟩
theorem y4 (b:cU) (v:Value) (hb:b.l.length≤1000) (hv:cL H v b.l) (hw:Has 0 w0 W (Fz H::R)):
  Calls Tryz.prog 164 ⟨[.agg ⟨aL b v⟩]⟩ W fun e W'=>∃(v':Value) (H':Fh),e= .returned (.agg ⟨aL b v'⟩)∧H.le H'∧cL H' v' b.l∧Has 0 w0 W' (Fz H'::R):=by
 obtain ⟨mad,mcap,rfl⟩:=hv.slice;refine enter Tryz.func164 Tryz.ntmps164 rfl rfl fun a hs=>?_;refine sc hs ?_;refine sn hs hw fun b1 a W hs hw=>?_;refine sn hs hw fun b2 a W hs hw=>?_;refine sv hs hw fun a hs=>?_;have hw:Has 0 w0 W (Fz H::aA b1 (aL b (.slice mad b.l.length mcap)) 66::aA b2 (aL ⟨0,0,[]⟩ (.slice none 0 0)) 66::R):=hw.pm;refine aG hs (hc:=sX w0 _ H b.l _ _ hb hv hw) (k:=?_);rintro e' W' ⟨v',H',rfl,hle,hv',hw⟩;refine ⟨_,rfl,fun a hs=>?_⟩;obtain ⟨vad,vcap,rfl⟩:=RdH.slice hv';refine sx hs hw fun a W hs hw=>?_;exact rc1 hs rfl rfl hw inn rfl ⟨_,H',rfl,hle,hv',hw.sl⟩
theorem aCn {v bv:Value} {b:List UInt8} (h:yY d b=some d') (hr:∀{W},Has 0 w0 W R→RdB W bv b) (hw:Has 0 w0 W (aB nameQ q d::bJ p q u.c v ps::R)):
  Calls Tryz.prog 166 ⟨[ptr p,bv]⟩ W fun e W'=>e= .returned (.int .i64 0)∧Has 0 w0 W' (aB nameQ q d'::bJ p q u.c v ps::R):=by
 obtain ⟨d1,h1,h2⟩:=Option.bind_eq_some_iff.1 h;obtain ⟨vad,vcap,rfl⟩:∃ad cap,bv= .slice ad b.length cap:=by
  obtain ⟨_,ad,cap,e,_⟩:=hr (hw.d2);exact ⟨ad,cap,e⟩
 refine enter Tryz.func166 Tryz.ntmps166 rfl rfl fun a hs=>?_;refine sv hs hw fun a hs=>?_;refine cl hs (aBz w0 W nameQ aIX aIW d d1 b _ _ h1 (fun g=>hr (g.d1)) hw) fun a W hs hw=>?_;refine sv hs hw fun a hs=>?_;refine cl hs (aCA w0 W nameQ d1 d' _ h2 hw) fun a W hs hw=>?_;refine sv hs hw fun a hs=>?_;exact rt1 hs rfl rfl ⟨rfl,hw⟩
theorem aI0 {ad:Option Addr} {cap:Nat} {xs:List Value} (hf:oW u) (hw:Has 0 w0 W (bJ p q u.c (.slice ad u.added.length cap) ps::Sx.Own 66 3 (.slice ad u.added.length cap) u.added.length xs::bA H ps u.s::R)):
  Calls Tryz.prog 165 ⟨[ptr p]⟩ W fun e W'=>e= .returned (.int .i64 (uK u))∧Has 0 w0 W' (bJ p q u.c (.slice ad u.added.length cap) ps::Sx.Own 66 3 (.slice ad u.added.length cap) u.added.length xs::bA H ps u.s::R):=by
 have h9:IntKind.i64.wrap ((u.added.length:Int) - cT u.s.f u.c)=uK u:=by
  have:=hf.last;have:=hf.added.1;rw [IntWalk.i64_in _ (by omega)];rfl
 refine enter Tryz.func165 Tryz.ntmps165 rfl rfl fun a hs=>?_;refine zA hs hw ?_;clear hs;intro a hs;refine bG [13] [.f 0 1,.f 0 1,.f 0 1,.f 0 1,.f 0 1,.f 0 0,.f 0 0,.f 0 0,.f 0 0,.f 0 0,.f 0 0,.f 0 0,.f 0 0,.m 0,.f 1 1,.f 1 1] [.c0 _,.c0 _,.c0 _,.c0 _,.c0 _,.c0 _,.c0 _,.c0 _,.c0 _,.c0 _,.c0 _,.c0 _,.c0 _,.c1 (fun x=> .int .i64 (cT u.s.f u.c)),.c1 _,.c1 _] (bJ p q u.c (.slice ad u.added.length cap) ps::Sx.Own 66 3 (.slice ad u.added.length cap) u.added.length xs::bA H ps u.s::R) (fun x=>bJ p q u.c (.slice ad u.added.length cap) ps::Sx.Own 66 3 (.slice ad u.added.length cap) u.added.length xs::bA H ps u.s::R) (fun x y=>[]) (fun x y z=>[]) (fun x y z t=>[]) hs hw ?kk ⟨drs,drs,drs,drs,drs,drs,drs,drs,drs,drs,drs,drs,drs,?m0,drs,drs,trivial⟩
 case m0=>
  intro x y z t LD a W hs hw;have hw:Has 0 w0 W (bA H ps u.s::bJ p q u.c (.slice ad u.added.length cap) ps::Sx.Own 66 3 (.slice ad u.added.length cap) u.added.length xs::R):=hw.pm;refine cl hs (aCl u.c hw) fun a W hs hw=>?_;exact ⟨{},hs,hw.pm⟩
 case kk=>
 intro _ a W hs hw;refine sc hs ?_;exact rt1 hs rfl rfl ⟨by rw [h9],hw⟩
theorem y5 {v:Value} (hw:Has 0 w0 W (bJ p q u.c v ps::R)):
  Calls Tryz.prog 58 ⟨[ptr p]⟩ W fun e W'=>e= .returned (ptr ps)∧Has 0 w0 W' (bJ p q u.c v ps::R):=by
 refine enter Tryz.func58 Tryz.ntmps58 rfl rfl fun a hs=>?_;refine sv hs hw fun a hs=>?_;exact rt1 hs rfl rfl ⟨rfl,hw⟩
end
section
variable {H H':Fh} {p q pk pr pt:Nat} {s s':cN} {w0 W:World} {R L:List Res} {d d':bF} {k k':dX} {o:fQ} {ms:List bS} {t:dU}
def lR (b:cU) (e:cD):Bool:=(e.kind == 2) && (match decode e.data.data.toList with|some p=>(p.1 == b.c) && (p.2.1 == b.q)|none=>false)
theorem aIi (s:cN) (b:cU):uJ s b=(s.r.l.get (w64 (s.t.ix+1)) 200).any (lR b):=rfl
theorem aIj {b:cU} {e:cD} {c q:Int} {l:List OpD} {err:Int} (h:e7 e.data.data.toList=((c,q,l),err)):lR b e=((e.kind == 2) && ((err == 0) && ((c == b.c) && (q == b.q)))):=by
 unfold lR;unfold e7 at h;cases hd:decode e.data.data.toList with
 |none=>
  rw [hd] at h;injection h with _ h2;subst h2;simp
 |some p=>
  rw [hd] at h;injection h with h1 h2;subst h1 h2;simp
theorem aIk (b:cU) {bad:Option Addr} {bcap:Nat} (hH:(fr w0).le H) (hT:Tabs w0) (hw:Has 0 w0 W (aP p pk pr pt::aF H pr s.r::aO H pt s.t::Fz H::R)):
  Calls Tryz.prog 179 ⟨[ptr p,.agg ⟨aL b (.slice bad b.l.length bcap)⟩]⟩ W fun e W'=>e= .returned (.bool (uJ s b))∧Has 0 w0 W' (aP p pk pr pt::aF H pr s.r::aO H pt s.t::Fz H::R):=by
 rw [aIi];refine enter Tryz.func179 Tryz.ntmps179 rfl rfl fun a hs=>?_;refine sc hs ?_;refine sn hs hw fun b3 a W hs hw=>?_;have hw:Has 0 w0 W (aF H pr s.r::aP p pk pr pt::aO H pt s.t::Fz H::aA b3 (aL b (.slice bad b.l.length bcap)) 66::R):=hw.pm;obtain ⟨pl,pv,pu,mv,hw⟩:=dG hw;have hw:Has 0 w0 W (aK pr s.r pl pv pu mv::aH pl s.r.l::VoR pv s.r.v::ToR pu s.r.t::aD H mv s.r.out.msgs::aP p pk pr pt::aO H pt s.t::Fz H::aA b3 (aL b (.slice bad b.l.length bcap)) 66::R):=hw;have hlw:=aCh (aCi (hw.pm:Has 0 w0 W (aH pl s.r.l::aK pr s.r pl pv pu mv::VoR pv s.r.v::ToR pu s.r.t::aD H mv s.r.out.msgs::aP p pk pr pt::aO H pt s.t::Fz H::aA b3 (aL b (.slice bad b.l.length bcap)) 66::R))) (i:=w64 (s.t.ix+1)) (n:=200);have hgl:(s.r.l.get (w64 (s.t.ix+1)) 200).length≤200:=aCf s.r.l _ 200;refine zA hs hw ?_;clear hs;intro a hs;refine bG [4,9,11] [.f 0 0,.f 0 0,.f 0 0,.f 0 0,.m 0,.f 0 1,.f 0 1,.f 0 1,.f 0 1,.m 1,.f 2 2,.m 2,.f 3 3,.f 0 3] [.c0 _,.c0 _,.c0 _,.c0 _,.c1 (fun x=>ptr pl),.c0 _,.c0 _,.c0 _,.c0 _,.c2 (fun x y=> .int .i64 s.t.ix),.c2 _,.c3 (fun x y z=> .slice z.ad (s.r.l.get (w64 (s.t.ix+1)) 200).length z.cap),.c3 _,.c0 _] (aK pr s.r pl pv pu mv::aH pl s.r.l::VoR pv s.r.v::ToR pu s.r.t::aD H mv s.r.out.msgs::aP p pk pr pt::aO H pt s.t::Fz H::aA b3 (aL b (.slice bad b.l.length bcap)) 66::R) (fun x=>aK pr s.r pl pv pu mv::aH pl s.r.l::VoR pv s.r.v::ToR pu s.r.t::aD H mv s.r.out.msgs::aP p pk pr pt::aO H pt s.t::Fz H::aA b3 (aL b (.slice bad b.l.length bcap)) 66::R) (fun x y=>aK pr s.r pl pv pu mv::aH pl s.r.l::VoR pv s.r.v::ToR pu s.r.t::aD H mv s.r.out.msgs::aP p pk pr pt::aO H pt s.t::Fz H::aA b3 (aL b (.slice bad b.l.length bcap)) 66::R) (fun x y z=>bV (.slice z.ad (s.r.l.get (w64 (s.t.ix+1)) 200).length z.cap) (s.r.l.get (w64 (s.t.ix+1)) 200)::aK pr s.r pl pv pu mv::aH pl s.r.l::VoR pv s.r.v::ToR pu s.r.t::aD H mv s.r.out.msgs::aP p pk pr pt::aO H pt s.t::Fz H::aA b3 (aL b (.slice bad b.l.length bcap)) 66::R) (fun x y z t=>[]) hs hw ?kk ⟨drs,drs,drs,drs,?m0,drs,drs,drs,drs,?m1,drs,?m2,drs,drs,trivial⟩
 case m0=>
  intro x y z u LD a W hs hw;refine cl hs (oS hw) fun a W hs hw=>?_;exact ⟨{},hs,hw⟩
 case m1=>
  intro x y z u LD a W hs hw;have hw:Has 0 w0 W (aO H pt s.t::aK pr s.r pl pv pu mv::aH pl s.r.l::VoR pv s.r.v::ToR pu s.r.t::aD H mv s.r.out.msgs::aP p pk pr pt::Fz H::aA b3 (aL b (.slice bad b.l.length bcap)) 66::R):=hw.pm;refine cl hs (tB w0 _ H pt s.t _ hw) fun a W hs hw=>?_;exact ⟨{},hs,hw.pm⟩
 case m2=>
  intro x y z u LD a W hs hw;refine sg hs hw (fun s a W hs hw=>?_) (g:=nL);exact ⟨{ad:=s.1,cap:=s.2},hs,hw⟩
 case kk=>
 intro _ _ zz a W hs hw;obtain ⟨es,hes⟩:∃es,es=s.r.l.get (w64 (s.t.ix+1)) 200:=⟨_,rfl⟩
 rw [←hes] at hs hw hlw hgl⊢;clear hes;replace hs:Slots a 55 [(3,ptr b3),(20,.slice zz.ad es.length zz.cap),(21,.int .i64 (es.length:Int)),(22,.int .i64 0)]:=hs.ot;have hw:Has 0 w0 W (aF H pr s.r::bV (.slice zz.ad es.length zz.cap) es::aP p pk pr pt::aO H pt s.t::Fz H::aA b3 (aL b (.slice bad b.l.length bcap)) 66::R):=cG (hw.pm);have hw:Has 0 w0 W (bV (.slice zz.ad es.length zz.cap) es::aP p pk pr pt::aF H pr s.r::aO H pt s.t::Fz H::aA b3 (aL b (.slice bad b.l.length bcap)) 66::R):=hw.pm;obtain ⟨zad,hzad⟩:∃zad,zad=zz.ad:=⟨_,rfl⟩
 obtain ⟨zcap,hzcap⟩:∃zcap,zcap=zz.cap:=⟨_,rfl⟩
 rw [←hzad,←hzcap] at hs hw;clear hzad hzcap;refine sc hs ?_;refine bY (σ:=Nat) (fun i=>[(3,ptr b3),(20,.slice zad es.length zcap),(21,.int .i64 (es.length:Int)),(22,.int .i64 (i:Int))]) (fun _=>bV (.slice zad es.length zcap) es::aP p pk pr pt::aF H pr s.r::aO H pt s.t::Fz H::aA b3 (aL b (.slice bad b.l.length bcap)) 66::R) (fun i=>i≤es.length∧(es.take i).any (lR b)=false) (fun i=>es.length - i) 0 ⟨Nat.zero_le _,rfl⟩ hs ⟨rfl,rfl,rfl,rfl,trivial⟩ hw ?_;clear hs hw;rintro i a W ⟨hi,hany⟩ hs hw;refine sv hs hw fun a hs=>?_;refine cI hs (kt:=fun hc=>?_) (kf:=fun hc=>?_)
 ·have hi':i<es.length:=by simpa using hc
  obtain ⟨e,he,hd⟩:=dR hi';have hed:=hlw e (List.mem_of_getElem? he);obtain ⟨⟨⟨c,q,l⟩,err⟩,hdec⟩:∃x,e7 e.data.data.toList=x:=⟨_,rfl⟩
  have hdl:e.data.data.toList.length≤1000000:=by rw [Array.length_toList];exact hed
  have hei:=aIj (b:=b) hdec;refine sc hs ?_;refine qS hs (hw.rd_own In.hd) he fun a g o hpc hs=>?_;refine eE hs (z:=zEnt) (cs:=bD e) (hc:=hpc) (hl:=by rfl) (c:=fun a hs=>?_);refine sn hs hw fun b6 a W hs hw=>?_;refine sx hs hw fun a W hs hw=>?_;have hw:Has 0 w0 W (aA b6 (bD e) 137::bV (.slice zad es.length zcap) es::aP p pk pr pt::aF H pr s.r::aO H pt s.t::Fz H::aA b3 (aL b (.slice bad b.l.length bcap)) 66::R):=hw;refine oG (s:=e.data) hs hw (by omega) (c:=fun a bb bcap0 ext W hw hrb hs=>?_);have hlen:=hw.endF inn hH;refine aG hs (hc:=x6 _ c q l err hdec _ _ hdl hrb (hT.keep hlen)) (k:=?_);rintro e0 W1 ⟨dad,dcap,rfl,hw1⟩;refine ⟨_,rfl,fun a hs=>?_⟩;replace hw:=hw.call hw1;clear hw1;refine sv hs hw fun a hs=>?_;refine sn hs hw fun b7 a W hs hw=>?_;refine sx hs hw fun a W hs hw=>?_;have hw:Has 0 w0 W (aA b7 (aL ⟨c,q,l⟩ (.slice dad l.length dcap)) 66::Sx.Own 55 9 (.slice dad l.length dcap) l.length (l.flatMap bX)::eR bb (bys e.data.data.toList ++ ext) 5::aA b6 (bD e) 137::bV (.slice zad es.length zcap) es::aP p pk pr pt::aF H pr s.r::aO H pt s.t::Fz H::aA b3 (aL b (.slice bad b.l.length bcap)) 66::R):=hw;replace hs:Slots a 55 [(36,.bool (e.kind == 2)),(3,ptr b3),(6,ptr b6),(7,ptr b7),(8,.int .i64 err),(20,.slice zad es.length zcap),(21,.int .i64 (es.length:Int)),(22,.int .i64 (i:Int))]:=hs.ot;have hback:∀{W A B C D},Has 0 w0 W (A::B::C::D::bV (.slice zad es.length zcap) es::aP p pk pr pt::aF H pr s.r::aO H pt s.t::Fz H::aA b3 (aL b (.slice bad b.l.length bcap)) 66::R)→Has 0 w0 W (bV (.slice zad es.length zcap) es::aP p pk pr pt::aF H pr s.r::aO H pt s.t::Fz H::aA b3 (aL b (.slice bad b.l.length bcap)) 66::R):=fun h=>h.sub (List.Sublist.cons _ (List.Sublist.cons _ (List.Sublist.cons _ (List.Sublist.cons _ (List.Sublist.refl _)))));have hret:∀{W},Has 0 w0 W (bV (.slice zad es.length zcap) es::aP p pk pr pt::aF H pr s.r::aO H pt s.t::Fz H::aA b3 (aL b (.slice bad b.l.length bcap)) 66::R)→Has 0 w0 W (aP p pk pr pt::aF H pr s.r::aO H pt s.t::Fz H::R):=fun h=>h.sl;refine Go.Sx.mergeL (M:=fun a W=>Slots a 55 [(53,.bool (lR b e)),(3,ptr b3),(20,.slice zad es.length zcap),(21,.int .i64 (es.length:Int)),(22,.int .i64 (i:Int))]∧Has 0 w0 W (bV (.slice zad es.length zcap) es::aP p pk pr pt::aF H pr s.r::aO H pt s.t::Fz H::aA b3 (aL b (.slice bad b.l.length bcap)) 66::R)) ?_ ?_
  case refine_2=>
   have fin:∀{a W},Slots a 55 [(53,.bool (lR b e)),(3,ptr b3),(20,.slice zad es.length zcap),(21,.int .i64 (es.length:Int)),(22,.int .i64 (i:Int))]→Has 0 w0 W (aA b7 (aL ⟨c,q,l⟩ (.slice dad l.length dcap)) 66::Sx.Own 55 9 (.slice dad l.length dcap) l.length (l.flatMap bX)::eR bb (bys e.data.data.toList ++ ext) 5::aA b6 (bD e) 137::bV (.slice zad es.length zcap) es::aP p pk pr pt::aF H pr s.r::aO H pt s.t::Fz H::aA b3 (aL b (.slice bad b.l.length bcap)) 66::R)→Go.Sx.Calm (fun a W=>Slots a 55 [(53,.bool (lR b e)),(3,ptr b3),(20,.slice zad es.length zcap),(21,.int .i64 (es.length:Int)),(22,.int .i64 (i:Int))]∧Has 0 w0 W (bV (.slice zad es.length zcap) es::aP p pk pr pt::aF H pr s.r::aO H pt s.t::Fz H::aA b3 (aL b (.slice bad b.l.length bcap)) 66::R)) .normal a W:=fun h1 h2=>And.intro h1 (hback h2);rw [hei] at fin⊢;cases c1:e.kind == 2 with
   |false=>
    rw [c1] at hs fin;refine sv hs hw fun a hs=>?_;exact fin (hs.ot) hw
   |true=>
   rw [c1] at hs fin;refine sv hs hw fun a hs=>?_;cases c2:err == 0 with
   |false=>
    rw [c2] at hs fin;refine sv hs hw fun a hs=>?_;exact fin (hs.ot) hw
   |true=>
   rw [c2] at hs fin;refine sv hs hw fun a hs=>?_;cases c3:c == b.c with
   |false=>
    rw [c3] at hs fin;refine sv hs hw fun a hs=>?_;exact fin (hs.ot) hw
   |true=>
    rw [c3] at hs fin;refine sv hs hw fun a hs=>?_;exact fin (hs.ot) hw
  case refine_1=>
  clear hs hw;rintro a W ⟨hs,hw⟩;cases ce:lR b e with
  |true=>
   rw [ce] at hs;refine sv hs hw fun a hs=>?_;refine rt1 hs rfl rfl ⟨?_,hret hw⟩;have h9:es.any (lR b)=true:=List.any_eq_true.2 ⟨e,List.mem_of_getElem? he,ce⟩;rw [h9]
  |false=>
   rw [ce] at hs;refine sv hs hw fun a hs=>?_;exact bQ (i+1) hs hw ⟨hi',aC5 he hany ce⟩ (by omega) ⟨rfl,rfl,rfl,bR (i1 (by omega)),trivial⟩
 ·have:es.take i=es:=List.take_of_length_le (by simp at hc;omega);rw [this] at hany;refine sv hs hw fun a hs=>?_;exact rt1 hs rfl rfl ⟨by rw [hany],hw.sl⟩
end
end Go.Proofs.YtgpbngfehfbndaaGreatDoor.Sw
