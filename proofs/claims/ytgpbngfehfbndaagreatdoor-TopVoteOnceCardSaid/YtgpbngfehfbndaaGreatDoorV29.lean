import Derived.Test.YtgpbngfehfbndaaGreatDoorV26
import Derived.Test.YtgpbngfehfbndaaGreatDoorV28
set_option maxHeartbeats 16000000
set_option linter.all false
set_option maxRecDepth 10000
namespace Go.Proofs.YtgpbngfehfbndaaGreatDoor.Sw
open Go.RowKit Go.Sx
open Go.Proofs.Tryz (prog)
section
variable {H H':Fh} {p q pk pr pt:Nat} {s s':cW} {w0 W:World} {R L:List Res} {d d':bM} {k k':dD} {o:fT} {ms:List bF} {t:dU}
theorem aBz (c:Int) (hw:Has 0 w0 W (aN H pt t::R)):
  Calls prog 177 ⟨[ptr pt,.int .i64 c]⟩ W fun e W'=>e= .returned (.int .i64 (cN t.f c))∧Has 0 w0 W' (aN H pt t::R):=by
 obtain ⟨pf,ad,cap,xs,hc,hw⟩:=kZ hw;refine en Tryz.func177 Tryz.ntmps177 fun a hs=>?_;refine sv hs hw fun a hs=>?_;refine cl hs (r9 w0 _ H pf t.f c _ hw.swap2) fun a W hs hw=>?_;refine sv hs hw fun a hs=>?_;exact rt1 hs rfl rfl ⟨rfl,fZ hw.swap2 hc⟩
theorem aCA (c:Int) (h8:∀x∈t.f.told,x.2.b.l.length≤8) (hw:Has 0 w0 W (aN H pt t::Fz H::R)):
  Calls prog 178 ⟨[ptr pt,.int .i64 c]⟩ W fun e W'=>∃(sv:Value) (H':Fh),e= .returned (.tuple ⟨[.agg ⟨aI (cL t.f c) sv⟩,.bool (!(cN t.f c == 0))]⟩)∧H.le H'∧cG H' sv (cL t.f c).b.l∧Has 0 w0 W' (aN H' pt t::Fz H'::R):=by
 obtain ⟨pf,ad,cap,xs,hc,hw⟩:=kZ hw;refine en Tryz.func178 Tryz.ntmps178 fun a hs=>?_;refine sc hs ?_;refine sn hs hw fun b4 a W hs hw=>?_;refine sv hs hw fun a hs=>?_;have hw:Has 0 w0 W (aU H pf t.f::Fz H::aA pt [.int .i64 t.ix,.pointer (some ⟨pf,0,none⟩),.slice ad t.rows.length cap] 201::Sx.Own 68 5 (.slice ad t.rows.length cap) t.rows.length xs::aA b4 zrc 68::R):=hw.pm;refine aH hs (hc:=aGD w0 _ H pf t.f c _ h8 hw) (k:=?_);rintro e' W' ⟨sv,H',rfl,hle,hop,hw⟩;refine ⟨_,rfl,fun a hs=>?_⟩;obtain ⟨oad,ocap,rfl⟩:=hop.slice;have hw:=hw.lz hle;refine sx hs hw fun a W hs hw=>?_;refine rc2 hs rfl rfl hw inn rfl rfl ⟨_,H',rfl,hle,hop,?_⟩;have hw:Has 0 w0 W (aA pt [.int .i64 t.ix,.pointer (some ⟨pf,0,none⟩),.slice ad t.rows.length cap] 201::aU H' pf t.f::Sx.Own 68 5 (.slice ad t.rows.length cap) t.rows.length xs::Fz H'::R):=hw.sl;exact fZ hw (hc.mono (RowIn.le hle))
theorem aH2 (hw:Has 0 w0 W (cE H p q s::R)):Calls prog 44 ⟨[ptr p]⟩ W fun e W'=>e= .returned (.bool false)∧Has 0 w0 W' (cE H p q s::R):=by
 obtain ⟨h1,h2,pk,pr,pt,hw⟩:=kI hw;refine en Tryz.func44 Tryz.ntmps44 fun a hs=>?_;refine sv hs hw fun a hs=>?_;exact rt1 hs rfl rfl ⟨rfl,jF hw h1 h2⟩
theorem xN (hw:Has 0 w0 W (aQ p pk pr pt::R)):Calls prog 20 ⟨[ptr p]⟩ W fun e W'=>e= .returned (ptr pr)∧Has 0 w0 W' (aQ p pk pr pt::R):=by
 refine en Tryz.func20 Tryz.ntmps20 fun a hs=>?_;refine sv hs hw fun a hs=>?_;exact rt1 hs rfl rfl ⟨rfl,hw⟩
theorem qT {r:cC} (h:lW r=true):jT r∧r.b.l.length≤8:=by
 unfold lW mT iB at h;simp only [Bool.and_eq_true,decide_eq_true_eq,List.all_eq_true] at h;refine ⟨⟨⟨h.1.1.1,h.1.1.2⟩,⟨h.1.2.1,h.1.2.2⟩,⟨⟨h.2.1.1.1.1,h.2.1.1.1.2⟩,⟨h.2.1.1.2.1,h.2.1.1.2.2⟩,fun o ho=>?_⟩⟩,h.2.2⟩;have h1:=h.2.1.2 o ho;unfold aBA iB at h1;simp only [Bool.and_eq_true,decide_eq_true_eq] at h1;obtain ⟨⟨⟨⟨⟨⟨⟨⟨a1,a2⟩,a3⟩,a4⟩,a5⟩,a6⟩,a7⟩,a8⟩,a9⟩:=h1;exact ⟨a1,a2,a3,a4,a5,a6,a7,a8,a9⟩
theorem aH3 (fr_:Int) (hw:Has 0 w0 W (cE H p q s::Fz H::R)):
  Calls prog 104 ⟨[ptr p,.int .i64 fr_]⟩ W fun e W'=>∃(v:Value) (H':Fh),e= .returned (.tuple ⟨[v,.int .i64 0]⟩)∧H.le H'∧jB H' v (gV s.t fr_ 10)∧Has 0 w0 W' (cE H' p q s::Fz H'::R):=by
 obtain ⟨h1,h2,pk,pr,pt,hw⟩:=kI hw;have ht:=oC h2;refine en Tryz.func104 Tryz.ntmps104 fun a hs=>?_;refine sv hs hw fun a hs=>?_;have hw:Has 0 w0 W (aN H pt s.t::Fz H::aQ p pk pr pt::aW pk q s.k::aE H pr s.r::R):=hw.pm;refine aH hs (hc:=aGB w0 _ H pt s.t fr_ 10 _ (by omega) (fun r hr=>by have:=(qT (ht.2.1 r hr)).2;omega) hw) (k:=?_);rintro e' W' ⟨v,H',rfl,hle,hro,hw⟩;refine ⟨_,rfl,fun a hs=>?_⟩;refine sv hs hw fun a hs=>?_;have hw:=hw.lz hle;have hw:Has 0 w0 W' (aQ p pk pr pt::aW pk q s.k::aE H' pr s.r::aN H' pt s.t::Fz H'::R):=hw.pm;exact rt2 hs rfl rfl rfl ⟨v,H',rfl,hle,hro,jF hw h1 h2⟩
end
section
variable {H H':Fh} {p q ps:Nat} {w0 W:World} {R L:List Res} {u:cZ} {s:fA} {d d':bM}
def nameQ:ByteArray:=⟨#[113,117,101,117,101]⟩
theorem aH4:lA nameQ.data.toList=true:=by decide
theorem aH5:nameQ.size≤1000:=by decide
theorem aCC (c:Int) (hw:Has 0 w0 W (aV H ps s::R)):
  Calls prog 238 ⟨[ptr ps,.int .i64 c]⟩ W fun e W'=>e= .returned (.int .i64 (cN s.f c))∧Has 0 w0 W' (aV H ps s::R):=by
 obtain ⟨pf,ad,cap,xs,hc,hw⟩:=mM hw;refine en Tryz.func238 Tryz.ntmps238 fun a hs=>?_;refine sv hs hw fun a hs=>?_;refine cl hs (r9 w0 _ H pf s.f c _ hw.swap2) fun a W hs hw=>?_;refine sv hs hw fun a hs=>?_;exact rt1 hs rfl rfl ⟨rfl,jA hw.swap2 hc⟩
theorem aH6 {n:Nat} {v:Value} {xs:List Value} (h1:∀u∈xs,u.oneCell'=true) (hl:n≤1000000) (hr:∀{W},Has 0 w0 W R→Rd W 5 v n xs) (hw:Has 0 w0 W R):
  Calls prog 279 ⟨[v]⟩ W fun e W'=>∃s:Option Addr×Nat,e= .returned (.slice s.1 n s.2)∧True∧Has 0 w0 W' (Sx.Own 68 5 (.slice s.1 n s.2) n xs::R):=by
 have hxl:xs.length=n*5:=by obtain ⟨h,_⟩:=hr hw;exact h
 obtain ⟨ad,cap,rfl⟩:∃ad cap,v= .slice ad n cap:=by obtain ⟨_,ad,cap,e,_⟩:=hr hw;exact ⟨ad,cap,e⟩
 refine en Tryz.func279 Tryz.ntmps279 fun a hs=>?_;refine sv hs hw fun a hs=>?_;refine kR hs (c:=fun a hs=>?_);cases ad with
 |none=>
  refine sv hs hw fun a hs=>?_;have h0:n=0:=by
   obtain ⟨_,ad,cap,e,_,_,h|⟨b,o,h,_⟩⟩:=hr hw
   ·exact h
   ·injection e with e1 _ _;rw [←e1] at h;cases h
  subst h0;obtain rfl:xs= []:=List.eq_nil_of_length_eq_zero (by omega);exact rt1 hs rfl rfl ⟨(none,0),rfl,trivial,hw.nilOwn 68 5⟩
 |some A=>
  rw [show (some A).isNone=false from rfl] at hs;refine sc hs ?_;refine o6 hs hw (c:=fun a ad W hw hs=>?_);refine sv hs hw fun a hs=>?_;refine lL hs (hw:=hw) (k:=0) (m:=n) (xs:=[]) (news:=xs) (hsrc:=eZ (hr (hw.d1)) h1) (h63:=by omega) (hb:=by omega) (c:=fun a ad2 cap2 W hs hw=>?_);rw [List.nil_append,Nat.zero_add] at hw;rw [Nat.zero_add] at hs;refine sv hs hw fun a hs=>?_;exact rt1 hs rfl rfl ⟨(ad2,cap2),rfl,trivial,hw⟩
theorem aH7 (hl:s.l.length≤1000000) (hw:Has 0 w0 W (aV H ps s::R)):
  Calls prog 248 ⟨[ptr ps]⟩ W fun e W'=>∃q:Nat,e= .returned (ptr q)∧True∧Has 0 w0 W' (aV H q s::aV H ps s::R):=by
 obtain ⟨pf,ad,cap,xs,hc,hw⟩:=mM hw;refine en Tryz.func248 Tryz.ntmps248 fun a hs=>?_;refine zA hs hw ?_;clear hs;intro a hs;refine bB [4,9,11] [.f 0 0,.f 0 0,.f 0 0,.f 0 0,.m 0,.f 0 1,.f 0 1,.f 0 1,.f 0 1,.m 1,.f 2 2,.m 2,.f 3 3] [.c0 _,.c0 _,.c0 _,.c0 _,.c1 (fun x=>ptr x.n),.c0 _,.c0 _,.c0 _,.c0 _,.c2 (fun x y=> .slice y.ad s.l.length y.cap),.c2 _,.c3 (fun x y z=>ptr z.n),.c3 _] (aA ps [.pointer (some ⟨pf,0,none⟩),.slice ad s.l.length cap] 186::aU H pf s.f::Sx.Own 68 5 (.slice ad s.l.length cap) s.l.length xs::R) (fun x=>aU H x.n s.f::aA ps [.pointer (some ⟨pf,0,none⟩),.slice ad s.l.length cap] 186::aU H pf s.f::Sx.Own 68 5 (.slice ad s.l.length cap) s.l.length xs::R) (fun x y=>Sx.Own 68 5 (.slice y.ad s.l.length y.cap) s.l.length xs::aU H x.n s.f::aA ps [.pointer (some ⟨pf,0,none⟩),.slice ad s.l.length cap] 186::aU H pf s.f::Sx.Own 68 5 (.slice ad s.l.length cap) s.l.length xs::R) (fun x y z=>aA z.n [.pointer (some ⟨x.n,0,none⟩),.slice y.ad s.l.length y.cap] 186::Sx.Own 68 5 (.slice y.ad s.l.length y.cap) s.l.length xs::aU H x.n s.f::aA ps [.pointer (some ⟨pf,0,none⟩),.slice ad s.l.length cap] 186::aU H pf s.f::Sx.Own 68 5 (.slice ad s.l.length cap) s.l.length xs::R) (fun x y z t=>[]) hs hw ?kk ⟨drs,drs,drs,drs,?m0,drs,drs,drs,drs,?m1,drs,drn,drs,trivial⟩
 case m0=>
  intro x y z t LD a W hs hw;have hw:Has 0 w0 W (aU H pf s.f::aA ps [.pointer (some ⟨pf,0,none⟩),.slice ad s.l.length cap] 186::Sx.Own 68 5 (.slice ad s.l.length cap) s.l.length xs::R):=hw.pm;refine aH hs (hc:=aA8 w0 _ H pf s.f _ hw) (k:=?_);rintro e' W' ⟨q,rfl,hw⟩;refine ⟨_,rfl,fun a hs=>?_⟩;exact ⟨{n:=q},hs,hw.pm⟩
 case m1=>
  intro x y z t LD a W hs hw;refine cle hs (aH6 (hc.ones RowIn.ones) hl (fun h=>h.rd_own inn) hw) fun q a W _ hs hw=>?_;exact ⟨{ad:=q.1,cap:=q.2},hs,hw⟩
 case kk=>
 intro x y z a W hs hw;refine sc hs ?_;refine rt1 hs rfl rfl ⟨z.n,rfl,trivial,?_⟩;have hw:Has 0 w0 W (aA z.n [.pointer (some ⟨x.n,0,none⟩),.slice y.ad s.l.length y.cap] 186::aU H x.n s.f::Sx.Own 68 5 (.slice y.ad s.l.length y.cap) s.l.length xs::aA ps [.pointer (some ⟨pf,0,none⟩),.slice ad s.l.length cap] 186::aU H pf s.f::Sx.Own 68 5 (.slice ad s.l.length cap) s.l.length xs::R):=hw.pm;have hw:=jA hw hc;have hw:Has 0 w0 W (aA ps [.pointer (some ⟨pf,0,none⟩),.slice ad s.l.length cap] 186::aU H pf s.f::Sx.Own 68 5 (.slice ad s.l.length cap) s.l.length xs::aV H z.n s::R):=hw.pm;exact (jA hw hc).swap2
abbrev bK (p q:Nat) (c:Int) (v:Value) (ps:Nat):Res:=aA p [ptr q,.int .i64 c,v,ptr ps] 183
def eN (H:Fh) (p q:Nat) (u:cZ):Res:=Ex fun x:Value×List Value×Nat=>bK p q u.c x.1 x.2.2::Sx.Own 66 3 x.1 u.added.length x.2.1::aV H x.2.2 u.s::bQ (Ch (BatIn H) u.added x.2.1∧gM u=true):: []
theorem lD {v:Value} {xs:List Value} (h:Has 0 w0 W (bK p q u.c v ps::Sx.Own 66 3 v u.added.length xs::aV H ps u.s::R)) (hc:Ch (BatIn H) u.added xs) (ho:gM u=true):Has 0 w0 W (eN H p q u::R):=Has.shut (v,xs,ps) ((h.fact (And.intro hc ho)).pm)
theorem lE (h:Has 0 w0 W (eN H p q u::R)):gM u=true∧∃ps ad cap xs,Ch (BatIn H) u.added xs∧Has 0 w0 W (bK p q u.c (.slice ad u.added.length cap) ps::Sx.Own 66 3 (.slice ad u.added.length cap) u.added.length xs::aV H ps u.s::R):=by
 obtain ⟨⟨v,xs,ps⟩,h⟩:=Has.open h;have h:Has 0 w0 W (bK p q u.c v ps::Sx.Own 66 3 v u.added.length xs::aV H ps u.s::bQ (Ch (BatIn H) u.added xs∧gM u=true)::R):=h;obtain ⟨h1,h2⟩:=h.told (In.tl (In.tl (In.tl In.hd)));have h3:Has 0 w0 W (Sx.Own 66 3 v u.added.length xs::bK p q u.c v ps::aV H ps u.s::R):=h.sl;obtain ⟨ad,cap,rfl⟩:=h3.own_slice;exact ⟨h2,ps,ad,cap,xs,h1,h3.swap2⟩
theorem aCD (h:Has 0 w0 W (eN H p q u::R)) (hl:H.le H'):Has 0 w0 W (eN H' p q u::R):=by
 obtain ⟨h1,ps,ad,cap,xs,hc,h⟩:=lE h;have h:=aAd (h.pm:Has 0 w0 W (aV H ps u.s::bK p q u.c (.slice ad u.added.length cap) ps::Sx.Own 66 3 (.slice ad u.added.length cap) u.added.length xs::R)) hl;exact lD (h.pm) (hc.mono (BatIn.le hl)) h1
instance (H H':Fh) (p q:Nat) (u:cZ):gZ H H' (eN H p q u) (eN H' p q u):=⟨fun hl h=>aCD h hl⟩
structure qY (u:cZ):Prop where
 c:1≤u.c∧u.c≤5
 added:u.added.length≤1000∧∀b∈u.added,iK b∧b.l.length≤8
 rows:u.s.l.length≤1000∧∀r∈u.s.l,(jT r∧r.b.l.length≤8)∧dS r.b=true
 last:0≤cN u.s.f u.c∧cN u.s.f u.c≤(u.added.length:Int)
theorem m9 {u:cZ} (h:gM u=true):qY u:=by
 unfold gM at h;simp only [Bool.and_eq_true,decide_eq_true_eq,List.all_eq_true] at h;obtain ⟨⟨⟨⟨⟨⟨⟨a1,a2⟩,a3⟩,a4⟩,a5⟩,a6⟩,a7⟩,a8⟩:=h;refine ⟨⟨a1,a2⟩,⟨a3,fun b hb=>?_⟩,⟨a5,fun r hr=>⟨qT (a6 r hr).1,(a6 r hr).2⟩⟩,⟨a7,a8⟩⟩;have:=qT (r:=⟨0,b,0⟩) (by unfold lW iB;rw [a4 b hb];rfl);exact ⟨this.1.b,this.2⟩
theorem xT (b:cT) (v:Value) (hb:b.l.length≤1000) (hv:cG H v b.l) (hw:Has 0 w0 W (Fz H::R)):
  Calls prog 164 ⟨[.agg ⟨aK b v⟩]⟩ W fun e W'=>∃(v':Value) (H':Fh),e= .returned (.agg ⟨aK b v'⟩)∧H.le H'∧cG H' v' b.l∧Has 0 w0 W' (Fz H'::R):=by
 obtain ⟨mad,mcap,rfl⟩:=hv.slice;refine en Tryz.func164 Tryz.ntmps164 fun a hs=>?_;refine sc hs ?_;refine sn hs hw fun b1 a W hs hw=>?_;refine sn hs hw fun b2 a W hs hw=>?_;refine sv hs hw fun a hs=>?_;have hw:Has 0 w0 W (Fz H::aA b1 (aK b (.slice mad b.l.length mcap)) 66::aA b2 (aK ⟨0,0,[]⟩ (.slice none 0 0)) 66::R):=hw.pm;refine aH hs (hc:=r8 w0 _ H b.l _ _ hb hv hw) (k:=?_);rintro e' W' ⟨v',H',rfl,hle,hv',hw⟩;refine ⟨_,rfl,fun a hs=>?_⟩;obtain ⟨vad,vcap,rfl⟩:=RdH.slice hv';refine sx hs hw fun a W hs hw=>?_;exact rc1 hs rfl rfl hw inn rfl ⟨_,H',rfl,hle,hv',hw.sl⟩
theorem aCE {v bv:Value} {b:List UInt8} (h:xP d b=some d') (hr:∀{W},Has 0 w0 W R→RdB W bv b) (hw:Has 0 w0 W (aB nameQ q d::bK p q u.c v ps::R)):
  Calls prog 166 ⟨[ptr p,bv]⟩ W fun e W'=>e= .returned (.int .i64 0)∧Has 0 w0 W' (aB nameQ q d'::bK p q u.c v ps::R):=by
 obtain ⟨d1,h1,h2⟩:=Option.bind_eq_some_iff.1 h;obtain ⟨vad,vcap,rfl⟩:∃ad cap,bv= .slice ad b.length cap:=by
  obtain ⟨_,ad,cap,e,_⟩:=hr (hw.d2);exact ⟨ad,cap,e⟩
 refine en Tryz.func166 Tryz.ntmps166 fun a hs=>?_;refine sv hs hw fun a hs=>?_;refine cl hs (aBN w0 W nameQ aH5 aH4 d d1 b _ _ h1 (fun g=>hr (g.d1)) hw) fun a W hs hw=>?_;refine sv hs hw fun a hs=>?_;refine cl hs (aBO w0 W nameQ d1 d' _ h2 hw) fun a W hs hw=>?_;refine sv hs hw fun a hs=>?_;exact rt1 hs rfl rfl ⟨rfl,hw⟩
theorem aH8 {ad:Option Addr} {cap:Nat} {xs:List Value} (hf:qY u) (hw:Has 0 w0 W (bK p q u.c (.slice ad u.added.length cap) ps::Sx.Own 66 3 (.slice ad u.added.length cap) u.added.length xs::aV H ps u.s::R)):
  Calls prog 165 ⟨[ptr p]⟩ W fun e W'=>e= .returned (.int .i64 (tH u))∧Has 0 w0 W' (bK p q u.c (.slice ad u.added.length cap) ps::Sx.Own 66 3 (.slice ad u.added.length cap) u.added.length xs::aV H ps u.s::R):=by
 have h9:IntKind.i64.wrap ((u.added.length:Int) - cN u.s.f u.c)=tH u:=by
  have:=hf.last;have:=hf.added.1;rw [IntWalk.i64_in _ (by omega)];rfl
 refine en Tryz.func165 Tryz.ntmps165 fun a hs=>?_;refine zA hs hw ?_;clear hs;intro a hs;refine bB [13] [.f 0 1,.f 0 1,.f 0 1,.f 0 1,.f 0 1,.f 0 0,.f 0 0,.f 0 0,.f 0 0,.f 0 0,.f 0 0,.f 0 0,.f 0 0,.m 0,.f 1 1,.f 1 1] [.c0 _,.c0 _,.c0 _,.c0 _,.c0 _,.c0 _,.c0 _,.c0 _,.c0 _,.c0 _,.c0 _,.c0 _,.c0 _,.c1 (fun x=> .int .i64 (cN u.s.f u.c)),.c1 _,.c1 _] (bK p q u.c (.slice ad u.added.length cap) ps::Sx.Own 66 3 (.slice ad u.added.length cap) u.added.length xs::aV H ps u.s::R) (fun x=>bK p q u.c (.slice ad u.added.length cap) ps::Sx.Own 66 3 (.slice ad u.added.length cap) u.added.length xs::aV H ps u.s::R) (fun x y=>[]) (fun x y z=>[]) (fun x y z t=>[]) hs hw ?kk ⟨drs,drs,drs,drs,drs,drs,drs,drs,drs,drs,drs,drs,drs,?m0,drs,drs,trivial⟩
 case m0=>
  intro x y z t LD a W hs hw;have hw:Has 0 w0 W (aV H ps u.s::bK p q u.c (.slice ad u.added.length cap) ps::Sx.Own 66 3 (.slice ad u.added.length cap) u.added.length xs::R):=hw.pm;refine cl hs (aCC u.c hw) fun a W hs hw=>?_;exact ⟨{},hs,hw.pm⟩
 case kk=>
 intro _ a W hs hw;refine sc hs ?_;exact rt1 hs rfl rfl ⟨by rw [h9],hw⟩
theorem aCF {v:Value} (hw:Has 0 w0 W (bK p q u.c v ps::R)):
  Calls prog 58 ⟨[ptr p]⟩ W fun e W'=>e= .returned (ptr ps)∧Has 0 w0 W' (bK p q u.c v ps::R):=by
 refine en Tryz.func58 Tryz.ntmps58 fun a hs=>?_;refine sv hs hw fun a hs=>?_;exact rt1 hs rfl rfl ⟨rfl,hw⟩
end
section
variable {H H':Fh} {p q pk pr pt:Nat} {s s':cW} {w0 W:World} {R L:List Res} {d d':bM} {k k':dD} {o:fT} {ms:List bF} {t:dU}
def lF (b:cT) (e:bY):Bool:=(e.kind == 2) && (match decode e.data.data.toList with|some p=>(p.1 == b.c) && (p.2.1 == b.q)|none=>false)
theorem aHt (s:cW) (b:cT):tG s b=(s.r.l.get (w64 (s.t.ix+1)) 200).any (lF b):=rfl
theorem aHu {b:cT} {e:bY} {c q:Int} {l:List OpD} {err:Int} (h:fB e.data.data.toList=((c,q,l),err)):lF b e=((e.kind == 2) && ((err == 0) && ((c == b.c) && (q == b.q)))):=by
 unfold lF;unfold fB at h;cases hd:decode e.data.data.toList with
 |none=>
  rw [hd] at h;injection h with _ h2;subst h2;simp
 |some p=>
  rw [hd] at h;injection h with h1 h2;subst h1 h2;simp
theorem aHv (b:cT) {bad:Option Addr} {bcap:Nat} (hH:(fr w0).le H) (hT:Tabs w0) (hw:Has 0 w0 W (aQ p pk pr pt::aE H pr s.r::aN H pt s.t::Fz H::R)):
  Calls prog 179 ⟨[ptr p,.agg ⟨aK b (.slice bad b.l.length bcap)⟩]⟩ W fun e W'=>e= .returned (.bool (tG s b))∧Has 0 w0 W' (aQ p pk pr pt::aE H pr s.r::aN H pt s.t::Fz H::R):=by
 rw [aHt];refine en Tryz.func179 Tryz.ntmps179 fun a hs=>?_;refine sc hs ?_;refine sn hs hw fun b3 a W hs hw=>?_;have hw:Has 0 w0 W (aE H pr s.r::aQ p pk pr pt::aN H pt s.t::Fz H::aA b3 (aK b (.slice bad b.l.length bcap)) 66::R):=hw.pm;obtain ⟨pl,pv,pu,mv,hw⟩:=dG hw;have hw:Has 0 w0 W (aJ pr s.r pl pv pu mv::aG pl s.r.l::VoR pv s.r.v::ToR pu s.r.t::aD H mv s.r.out.msgs::aQ p pk pr pt::aN H pt s.t::Fz H::aA b3 (aK b (.slice bad b.l.length bcap)) 66::R):=hw;have hlw:=aBw (aBx (hw.pm:Has 0 w0 W (aG pl s.r.l::aJ pr s.r pl pv pu mv::VoR pv s.r.v::ToR pu s.r.t::aD H mv s.r.out.msgs::aQ p pk pr pt::aN H pt s.t::Fz H::aA b3 (aK b (.slice bad b.l.length bcap)) 66::R))) (i:=w64 (s.t.ix+1)) (n:=200);have hgl:(s.r.l.get (w64 (s.t.ix+1)) 200).length≤200:=aBu s.r.l _ 200;refine zA hs hw ?_;clear hs;intro a hs;refine bB [4,9,11] [.f 0 0,.f 0 0,.f 0 0,.f 0 0,.m 0,.f 0 1,.f 0 1,.f 0 1,.f 0 1,.m 1,.f 2 2,.m 2,.f 3 3,.f 0 3] [.c0 _,.c0 _,.c0 _,.c0 _,.c1 (fun x=>ptr pl),.c0 _,.c0 _,.c0 _,.c0 _,.c2 (fun x y=> .int .i64 s.t.ix),.c2 _,.c3 (fun x y z=> .slice z.ad (s.r.l.get (w64 (s.t.ix+1)) 200).length z.cap),.c3 _,.c0 _] (aJ pr s.r pl pv pu mv::aG pl s.r.l::VoR pv s.r.v::ToR pu s.r.t::aD H mv s.r.out.msgs::aQ p pk pr pt::aN H pt s.t::Fz H::aA b3 (aK b (.slice bad b.l.length bcap)) 66::R) (fun x=>aJ pr s.r pl pv pu mv::aG pl s.r.l::VoR pv s.r.v::ToR pu s.r.t::aD H mv s.r.out.msgs::aQ p pk pr pt::aN H pt s.t::Fz H::aA b3 (aK b (.slice bad b.l.length bcap)) 66::R) (fun x y=>aJ pr s.r pl pv pu mv::aG pl s.r.l::VoR pv s.r.v::ToR pu s.r.t::aD H mv s.r.out.msgs::aQ p pk pr pt::aN H pt s.t::Fz H::aA b3 (aK b (.slice bad b.l.length bcap)) 66::R) (fun x y z=>bE (.slice z.ad (s.r.l.get (w64 (s.t.ix+1)) 200).length z.cap) (s.r.l.get (w64 (s.t.ix+1)) 200)::aJ pr s.r pl pv pu mv::aG pl s.r.l::VoR pv s.r.v::ToR pu s.r.t::aD H mv s.r.out.msgs::aQ p pk pr pt::aN H pt s.t::Fz H::aA b3 (aK b (.slice bad b.l.length bcap)) 66::R) (fun x y z t=>[]) hs hw ?kk ⟨drs,drs,drs,drs,?m0,drs,drs,drs,drs,?m1,drs,?m2,drs,drs,trivial⟩
 case m0=>
  intro x y z u LD a W hs hw;refine cl hs (qR hw) fun a W hs hw=>?_;exact ⟨{},hs,hw⟩
 case m1=>
  intro x y z u LD a W hs hw;have hw:Has 0 w0 W (aN H pt s.t::aJ pr s.r pl pv pu mv::aG pl s.r.l::VoR pv s.r.v::ToR pu s.r.t::aD H mv s.r.out.msgs::aQ p pk pr pt::Fz H::aA b3 (aK b (.slice bad b.l.length bcap)) 66::R):=hw.pm;refine cl hs (pO w0 _ H pt s.t _ hw) fun a W hs hw=>?_;exact ⟨{},hs,hw.pm⟩
 case m2=>
  intro x y z u LD a W hs hw;refine sg hs hw (fun s a W hs hw=>?_) (g:=mZ);exact ⟨{ad:=s.1,cap:=s.2},hs,hw⟩
 case kk=>
 intro _ _ zz a W hs hw;obtain ⟨es,hes⟩:∃es,es=s.r.l.get (w64 (s.t.ix+1)) 200:=⟨_,rfl⟩
 rw [←hes] at hs hw hlw hgl⊢;clear hes;replace hs:Slots a 55 [(3,ptr b3),(20,.slice zz.ad es.length zz.cap),(21,.int .i64 (es.length:Int)),(22,.int .i64 0)]:=hs.ot;have hw:Has 0 w0 W (aE H pr s.r::bE (.slice zz.ad es.length zz.cap) es::aQ p pk pr pt::aN H pt s.t::Fz H::aA b3 (aK b (.slice bad b.l.length bcap)) 66::R):=cD (hw.pm);have hw:Has 0 w0 W (bE (.slice zz.ad es.length zz.cap) es::aQ p pk pr pt::aE H pr s.r::aN H pt s.t::Fz H::aA b3 (aK b (.slice bad b.l.length bcap)) 66::R):=hw.pm;obtain ⟨zad,hzad⟩:∃zad,zad=zz.ad:=⟨_,rfl⟩
 obtain ⟨zcap,hzcap⟩:∃zcap,zcap=zz.cap:=⟨_,rfl⟩
 rw [←hzad,←hzcap] at hs hw;clear hzad hzcap;refine sc hs ?_;refine bX (σ:=Nat) (fun i=>[(3,ptr b3),(20,.slice zad es.length zcap),(21,.int .i64 (es.length:Int)),(22,.int .i64 (i:Int))]) (fun _=>bE (.slice zad es.length zcap) es::aQ p pk pr pt::aE H pr s.r::aN H pt s.t::Fz H::aA b3 (aK b (.slice bad b.l.length bcap)) 66::R) (fun i=>i≤es.length∧(es.take i).any (lF b)=false) (fun i=>es.length - i) 0 ⟨Nat.zero_le _,rfl⟩ hs ⟨rfl,rfl,rfl,rfl,trivial⟩ hw ?_;clear hs hw;rintro i a W ⟨hi,hany⟩ hs hw;refine sv hs hw fun a hs=>?_;refine cI hs (kt:=fun hc=>?_) (kf:=fun hc=>?_)
 ·have hi':i<es.length:=by simpa using hc
  obtain ⟨e,he,hd⟩:=dP hi';have hed:=hlw e (List.mem_of_getElem? he);obtain ⟨⟨⟨c,q,l⟩,err⟩,hdec⟩:∃x,fB e.data.data.toList=x:=⟨_,rfl⟩
  have hdl:e.data.data.toList.length≤1000000:=by rw [Array.length_toList];exact hed
  have hei:=aHu (b:=b) hdec;refine sc hs ?_;refine p7 hs (hw.rd_own In.hd) he fun a g o hpc hs=>?_;refine eC hs (z:=zEnt) (cs:=bA e) (hc:=hpc) (hl:=by rfl) (c:=fun a hs=>?_);refine sn hs hw fun b6 a W hs hw=>?_;refine sx hs hw fun a W hs hw=>?_;have hw:Has 0 w0 W (aA b6 (bA e) 137::bE (.slice zad es.length zcap) es::aQ p pk pr pt::aE H pr s.r::aN H pt s.t::Fz H::aA b3 (aK b (.slice bad b.l.length bcap)) 66::R):=hw;refine nS (s:=e.data) hs hw (by omega) (c:=fun a bb bcap0 ext W hw hrb hs=>?_);have hlen:=hw.endF inn hH;refine aH hs (hc:=wM _ c q l err hdec _ _ hdl hrb (hT.keep hlen)) (k:=?_);rintro e0 W1 ⟨dad,dcap,rfl,hw1⟩;refine ⟨_,rfl,fun a hs=>?_⟩;replace hw:=hw.call hw1;clear hw1;refine sv hs hw fun a hs=>?_;refine sn hs hw fun b7 a W hs hw=>?_;refine sx hs hw fun a W hs hw=>?_;have hw:Has 0 w0 W (aA b7 (aK ⟨c,q,l⟩ (.slice dad l.length dcap)) 66::Sx.Own 55 9 (.slice dad l.length dcap) l.length (l.flatMap bZ)::eV bb (bys e.data.data.toList ++ ext) 5::aA b6 (bA e) 137::bE (.slice zad es.length zcap) es::aQ p pk pr pt::aE H pr s.r::aN H pt s.t::Fz H::aA b3 (aK b (.slice bad b.l.length bcap)) 66::R):=hw;replace hs:Slots a 55 [(36,.bool (e.kind == 2)),(3,ptr b3),(6,ptr b6),(7,ptr b7),(8,.int .i64 err),(20,.slice zad es.length zcap),(21,.int .i64 (es.length:Int)),(22,.int .i64 (i:Int))]:=hs.ot;have hback:∀{W A B C D},Has 0 w0 W (A::B::C::D::bE (.slice zad es.length zcap) es::aQ p pk pr pt::aE H pr s.r::aN H pt s.t::Fz H::aA b3 (aK b (.slice bad b.l.length bcap)) 66::R)→Has 0 w0 W (bE (.slice zad es.length zcap) es::aQ p pk pr pt::aE H pr s.r::aN H pt s.t::Fz H::aA b3 (aK b (.slice bad b.l.length bcap)) 66::R):=fun h=>h.sub (List.Sublist.cons _ (List.Sublist.cons _ (List.Sublist.cons _ (List.Sublist.cons _ (List.Sublist.refl _)))));have hret:∀{W},Has 0 w0 W (bE (.slice zad es.length zcap) es::aQ p pk pr pt::aE H pr s.r::aN H pt s.t::Fz H::aA b3 (aK b (.slice bad b.l.length bcap)) 66::R)→Has 0 w0 W (aQ p pk pr pt::aE H pr s.r::aN H pt s.t::Fz H::R):=fun h=>h.sl;refine Go.Sx.mergeL (M:=fun a W=>Slots a 55 [(53,.bool (lF b e)),(3,ptr b3),(20,.slice zad es.length zcap),(21,.int .i64 (es.length:Int)),(22,.int .i64 (i:Int))]∧Has 0 w0 W (bE (.slice zad es.length zcap) es::aQ p pk pr pt::aE H pr s.r::aN H pt s.t::Fz H::aA b3 (aK b (.slice bad b.l.length bcap)) 66::R)) ?_ ?_
  case refine_2=>
   have fin:∀{a W},Slots a 55 [(53,.bool (lF b e)),(3,ptr b3),(20,.slice zad es.length zcap),(21,.int .i64 (es.length:Int)),(22,.int .i64 (i:Int))]→Has 0 w0 W (aA b7 (aK ⟨c,q,l⟩ (.slice dad l.length dcap)) 66::Sx.Own 55 9 (.slice dad l.length dcap) l.length (l.flatMap bZ)::eV bb (bys e.data.data.toList ++ ext) 5::aA b6 (bA e) 137::bE (.slice zad es.length zcap) es::aQ p pk pr pt::aE H pr s.r::aN H pt s.t::Fz H::aA b3 (aK b (.slice bad b.l.length bcap)) 66::R)→Go.Sx.Calm (fun a W=>Slots a 55 [(53,.bool (lF b e)),(3,ptr b3),(20,.slice zad es.length zcap),(21,.int .i64 (es.length:Int)),(22,.int .i64 (i:Int))]∧Has 0 w0 W (bE (.slice zad es.length zcap) es::aQ p pk pr pt::aE H pr s.r::aN H pt s.t::Fz H::aA b3 (aK b (.slice bad b.l.length bcap)) 66::R)) .normal a W:=fun h1 h2=>And.intro h1 (hback h2);rw [hei] at fin⊢;cases c1:e.kind == 2 with
   |false=>
    rw [c1] at hs fin;refine sv hs hw fun a hs=>?_;exact fin (hs.ot) hw
   |true=>
   rw [c1] at hs fin;refine sv hs hw fun a hs=>?_;cases c2:err == 0 with
   |false=>
    rw [c2] at hs fin;refine sv hs hw fun a hs=>?_;exact fin (hs.ot) hw
   |true=>
   rw [c2] at hs fin;refine sv hs hw fun a hs=>?_;cases c3:c == b.c with
   |false=>
    rw [c3] at hs fin;refine sv hs hw fun a hs=>?_;exact fin (hs.ot) hw
   |true=>
    rw [c3] at hs fin;refine sv hs hw fun a hs=>?_;exact fin (hs.ot) hw
  case refine_1=>
  clear hs hw;rintro a W ⟨hs,hw⟩;cases ce:lF b e with
  |true=>
   rw [ce] at hs;refine sv hs hw fun a hs=>?_;refine rt1 hs rfl rfl ⟨?_,hret hw⟩;have h9:es.any (lF b)=true:=List.any_eq_true.2 ⟨e,List.mem_of_getElem? he,ce⟩;rw [h9]
  |false=>
   rw [ce] at hs;refine sv hs hw fun a hs=>?_;exact bS (i+1) hs hw ⟨hi',aBi he hany ce⟩ (by omega) ⟨rfl,rfl,rfl,bU (i1 (by omega)),trivial⟩
 ·have:es.take i=es:=List.take_of_length_le (by simp at hc;omega);rw [this] at hany;refine sv hs hw fun a hs=>?_;exact rt1 hs rfl rfl ⟨by rw [hany],hw.sl⟩
end
section
variable {H H':Fh} {p:Nat} {w0 W:World} {R L:List Res} {l:List bF}
abbrev eO (p:Nat) (v:Value):Res:=aA p [v] 88
def qZ (l:List bF):Prop:=l.length≤400∧∀m∈l,m.es.length≤8
def aL (H:Fh) (p:Nat) (l:List bF):Res:=Ex fun v:Value=>eO p v::aD H v l::bQ (qZ l):: []
theorem aHz {v:Value} (h:Has 0 w0 W (eO p v::aD H v l::R)) (hl:qZ l):Has 0 w0 W (aL H p l::R):=Has.shut v ((h.fact hl).pm)
theorem kJ (h:Has 0 w0 W (aL H p l::R)):qZ l∧∃ad cap xs,Ch (MsgIn H) l xs∧Has 0 w0 W (Sx.Own 38 13 (.slice ad l.length cap) l.length xs::eO p (.slice ad l.length cap)::R):=by
 obtain ⟨v,h⟩:=Has.open h;have h:Has 0 w0 W (eO p v::aD H v l::bQ (qZ l)::R):=h;have hl:=h.told (In.tl (In.tl In.hd));obtain ⟨ad,cap,xs,rfl,hc,h⟩:=qJ (h.sl:Has 0 w0 W (aD H v l::eO p v::R));exact ⟨hl,ad,cap,xs,hc,h⟩
theorem lG {v:Value} {xs:List Value} (h:Has 0 w0 W (Sx.Own 38 13 v l.length xs::eO p v::R)) (hc:Ch (MsgIn H) l xs) (hl:qZ l):Has 0 w0 W (aL H p l::R):=aHz ((lB h hc).swap2) hl
theorem aIA (h:Has 0 w0 W (aL H p l::R)) (hl:H.le H'):Has 0 w0 W (aL H' p l::R):=by
 obtain ⟨h4,ad,cap,xs,hc,h⟩:=kJ h;exact lG h (hc.mono (MsgIn.le hl)) h4
instance (H H':Fh) (p:Nat) (l:List bF):gZ H H' (aL H p l) (aL H' p l):=⟨fun hl h=>aIA h hl⟩
theorem aIB (hw:Has 0 w0 W R):Calls prog 74 ⟨[]⟩ W fun e W'=>∃p:Nat,e= .returned (ptr p)∧True∧Has 0 w0 W' (aL H p []::R):=by
 refine en Tryz.func74 Tryz.ntmps74 fun a hs=>?_;refine sv hs hw fun a hs=>?_;refine sn hs hw fun b a W hs hw=>?_;refine sv hs hw fun a hs=>?_;refine rt1 hs rfl rfl ⟨b,rfl,trivial,?_⟩;exact lG (l:=[]) (v:= .slice none 0 0) (xs:=[]) (hw.nilOwn 38 13) rfl ⟨by decide,fun m h=>(by cases h)⟩
theorem kK (hw:Has 0 w0 W (aL H p l::R)):Calls prog 14 ⟨[ptr p]⟩ W fun e W'=>e= .returned (.int .i64 (l.length:Int))∧Has 0 w0 W' (aL H p l::R):=by
 obtain ⟨h4,ad,cap,xs,hc,hw⟩:=kJ hw;refine en Tryz.func14 Tryz.ntmps14 fun a hs=>?_;refine sv hs hw fun a hs=>?_;exact rt1 hs rfl rfl ⟨rfl,lG hw hc h4⟩
theorem xV (m:bF) (v:Value) (hm:fN H v m.es) (he:m.es.length≤1000) (hw:Has 0 w0 W (Fz H::R)):
  Calls prog 47 ⟨[.agg ⟨aF m v⟩]⟩ W fun e W'=>∃(v':Value) (H':Fh),e= .returned (.agg ⟨aF m v'⟩)∧H.le H'∧fN H' v' m.es∧Has 0 w0 W' (Fz H'::R):=by
 obtain ⟨mad,mcap,rfl⟩:=hm.slice;refine en Tryz.func47 Tryz.ntmps47 fun a hs=>?_;refine sc hs ?_;refine sn hs hw fun b1 a W hs hw=>?_;refine sn hs hw fun b2 a W hs hw=>?_;refine sv hs hw fun a hs=>?_;refine cle hs (sT w0 W m.es _ _ he (fun h=>h.rdH (In.tl (In.tl In.hd)) hm) hw) fun x a W _ hs hw=>?_;refine sx hs hw fun a W hs hw=>?_;have hw:Has 0 w0 W (bE (.slice x.1 m.es.length x.2) m.es::Fz H::aA b2 (aF m (.slice x.1 m.es.length x.2)) 38::R):=hw.sl;obtain ⟨H',hle,hw,hes⟩:=hw.freeze_own;refine rc1 hs rfl rfl hw inn rfl ⟨_,H',rfl,hle,hes,hw.sl⟩
theorem aIC {m:bF} (hw:Has 0 w0 W (aL H p (m::l)::Fz H::R)):
  Calls prog 15 ⟨[ptr p,.int .i64 0]⟩ W fun e W'=>∃(v:Value) (H':Fh),e= .returned (.tuple ⟨[.agg ⟨aF m v⟩,.bool true]⟩)∧H.le H'∧fN H' v m.es∧m.snap.conf.size≤1000000∧Has 0 w0 W' (aL H' p (m::l)::Fz H'::R):=by
 refine en Tryz.func15 Tryz.ntmps15 fun a hs=>?_;refine sc hs ?_;refine sn hs hw fun b4 a W hs hw=>?_;refine sv hs hw fun a hs=>?_;have hw:Has 0 w0 W (aL H p (m::l)::Fz H::aA b4 fC 38::R):=hw.pm;refine cl hs (kK hw) fun a W hs hw=>?_;refine sv hs hw fun a hs=>?_;rw [show decide ((0:Int)≥(((m::l).length:Nat):Int))=false from decide_eq_false (by rw [List.length_cons];omega)] at hs;obtain ⟨h4,ad,cap,xs,hc,hw⟩:=kJ hw;have hm8:=h4.2 m (List.mem_cons_self ..);refine sx hs hw fun a W hs hw=>?_;refine gT hs (i:=0) (r:=hw.rd_own In.hd) (hk:=MsgIn.len) (ch:=hc) (ho:=show (m::l)[0]? =some m from rfl) (hlen:=rfl) (c:=fun a g off c hmc hcl hpc hlt hs=>?_);obtain ⟨v,rfl,hev,hcs⟩:=hmc;refine eC hs (z:=fC) (cs:=aF m v) (hc:=hpc) (hl:=by rfl) (c:=fun a hs=>?_);have hw:Has 0 w0 W (Fz H::Sx.Own 38 13 (.slice ad (m::l).length cap) (m::l).length xs::eO p (.slice ad (m::l).length cap)::aA b4 fC 38::R):=hw.pm;refine aH hs (hc:=xV m v hev (by omega) hw) (k:=?_);rintro e' W' ⟨v',H',rfl,hle,hev',hw⟩;refine ⟨_,rfl,fun a hs=>?_⟩;obtain ⟨vad,vcap,rfl⟩:=hev'.slice;refine sx hs hw fun a W hs hw=>?_;refine rc2 hs rfl rfl hw inn rfl rfl ⟨_,H',rfl,hle,hev',hcs,?_⟩;have hw:Has 0 w0 W (Sx.Own 38 13 (.slice ad (m::l).length cap) (m::l).length xs::eO p (.slice ad (m::l).length cap)::Fz H'::R):=hw.sl;exact lG hw (hc.mono (MsgIn.le hle)) h4
end
section
variable {H H':Fh} {p:Nat} {w0 W:World} {R L:List Res} {l:List bF}
theorem aID (m:bF) (v:Value) (hm:fN H v m.es) (hcs:m.snap.conf.size≤1000000) (hw:Has 0 w0 W (aL H p l::Fz H::R)):
  Calls prog 77 ⟨[ptr p,.agg ⟨aF m v⟩]⟩ W fun e W'=>∃(b:Bool) (H':Fh),e= .returned (.bool b)∧H.le H'∧Has 0 w0 W' (aL H' p (oD l m)::Fz H'::R):=by
 obtain ⟨mad,mcap,rfl⟩:=hm.slice;obtain ⟨hf,ad,cap,xs,hch,hw⟩:=kJ hw;refine en Tryz.func77 Tryz.ntmps77 fun a hs=>?_;refine sc hs ?_;refine sn hs hw fun b3 a W hs hw=>?_;have hw:Has 0 w0 W (aA b3 (aF m (.slice mad m.es.length mcap)) 38::Sx.Own 38 13 (.slice ad l.length cap) l.length xs::eO p (.slice ad l.length cap)::Fz H::R):=hw;have fin0:∀{W},Has 0 w0 W (aA b3 (aF m (.slice mad m.es.length mcap)) 38::Sx.Own 38 13 (.slice ad l.length cap) l.length xs::eO p (.slice ad l.length cap)::Fz H::R)→Has 0 w0 W (aL H p l::Fz H::R):=fun h=>lG (h.d1) hch hf;refine sx hs hw fun a W hs hw=>?_;refine cl hs (aB1 m _ hm hcs inn hw) fun a W hs hw=>?_;cases c1:iO m with
 |false=>
  rw [c1] at hs;refine sv hs hw fun a hs=>?_;refine rt1 hs rfl rfl ⟨false,H,rfl,Fh.le.refl H,?_⟩;rw [show oD l m=l from if_neg (by rw [c1];simp)];exact fin0 hw
 |true=>
 rw [c1] at hs;refine sx hs hw fun a W hs hw=>?_;cases c2:decide ((l.length:Int)≥400) with
 |true=>
  rw [c2] at hs;refine sv hs hw fun a hs=>?_;refine rt1 hs rfl rfl ⟨false,H,rfl,Fh.le.refl H,?_⟩;have:=of_decide_eq_true c2;rw [show oD l m=l from if_neg (by omega)];exact fin0 hw
 |false=>
 rw [c2] at hs;have hlt:l.length<400:=by have:=of_decide_eq_false c2;omega
 have hes:=aBq c1;refine sc hs ?_;refine bB [6,7,8,11] [.f 0 3,.f 0 2,.f 0 2,.f 0 2,.f 0 2,.f 0 0,.m 0,.m 1,.m 2,.f 3 3,.f 3 3,.m 3] [.c0 _,.c0 _,.c0 _,.c0 _,.c0 _,.c0 _,.c1 (fun x=> .agg ⟨aF m (.slice x.ad m.es.length x.cap)⟩),.c2 (fun x y=> .slice (some ⟨y.n,0,none⟩) 1 1),.c3 (fun x y z=> .slice z.ad (l ++ [m]).length z.cap),.c3 _,.c3 _,.c4 (fun x y z t=>undef)] (aA b3 (aF m (.slice mad m.es.length mcap)) 38::Sx.Own 38 13 (.slice ad l.length cap) l.length xs::eO p (.slice ad l.length cap)::Fz H::R) (fun x=>aA b3 (aF m (.slice mad m.es.length mcap)) 38::Sx.Own 38 13 (.slice ad l.length cap) l.length xs::eO p (.slice ad l.length cap)::FzF x.H (H.le x.H∧fN x.H (.slice x.ad m.es.length x.cap) m.es)::R) (fun x y=>aA y.n (aF m (.slice x.ad m.es.length x.cap)) 38::aA b3 (aF m (.slice mad m.es.length mcap)) 38::Sx.Own 38 13 (.slice ad l.length cap) l.length xs::eO p (.slice ad l.length cap)::FzF x.H (H.le x.H∧fN x.H (.slice x.ad m.es.length x.cap) m.es)::R) (fun x y z=>Sx.Own 38 13 (.slice z.ad (l ++ [m]).length z.cap) (l ++ [m]).length (xs ++ aF m (.slice x.ad m.es.length x.cap))::eO p (.slice ad l.length cap)::FzF x.H (H.le x.H∧fN x.H (.slice x.ad m.es.length x.cap) m.es)::R) (fun x y z t=>Sx.Own 38 13 (.slice z.ad (l ++ [m]).length z.cap) (l ++ [m]).length (xs ++ aF m (.slice x.ad m.es.length x.cap))::eO p (.slice z.ad (l ++ [m]).length z.cap)::FzF x.H (H.le x.H∧fN x.H (.slice x.ad m.es.length x.cap) m.es)::R) hs hw ?kk ⟨drs,drs,drs,drs,drs,drs,?m0,drn,?m2,drs,drs,drm,trivial⟩
 case m0=>
  intro x y z t LD a W hs hw;have hw:Has 0 w0 W (Fz H::aA b3 (aF m (.slice mad m.es.length mcap)) 38::Sx.Own 38 13 (.slice ad l.length cap) l.length xs::eO p (.slice ad l.length cap)::R):=hw.pm;refine aH hs (hc:=xV m _ hm (by omega) hw) (k:=?_);rintro e' W' ⟨v',H2,rfl,hle,hev,hw⟩;refine ⟨_,rfl,fun a hs=>?_⟩;obtain ⟨vad,vcap,rfl⟩:=hev.slice;have hw:=hw.fzf (And.intro hle hev);exact ⟨{ad:=vad,cap:=vcap,H:=H2},hs,hw.pm⟩
 case m2=>
  intro x y z t LD a W hs hw;have hw:Has 0 w0 W (FzF x.H (H.le x.H∧fN x.H (.slice x.ad m.es.length x.cap) m.es)::Sx.Own 38 13 (.slice ad l.length cap) l.length xs::aA y.n (aF m (.slice x.ad m.es.length x.cap)) 38::aA b3 (aF m (.slice mad m.es.length mcap)) 38::eO p (.slice ad l.length cap)::R):=hw.pm;obtain ⟨⟨hle,hev⟩,hw⟩:=hw.unfzf;have hin:MsgIn x.H m (aF m (.slice x.ad m.es.length x.cap)):=⟨_,rfl,hev,hcs⟩
  have hw:Has 0 w0 W (Sx.Own 38 13 (.slice ad l.length cap) l.length xs::aA y.n (aF m (.slice x.ad m.es.length x.cap)) 38::aA b3 (aF m (.slice mad m.es.length mcap)) 38::eO p (.slice ad l.length cap)::Fz x.H::R):=hw.pm;refine i6 hs hw In.hd (hch.mono (MsgIn.le hle)) hin rfl rfl (by omega) (by omega) (k:=fun a ad2 cap2 W hs hw _=>?_);have hw:Has 0 w0 W (Fz x.H::Sx.Own 38 13 (.slice ad2 (l ++ [m]).length cap2) (l ++ [m]).length (xs ++ aF m (.slice x.ad m.es.length x.cap))::eO p (.slice ad l.length cap)::R):=hw.sl;have hw:=hw.fzf (And.intro hle hev);exact ⟨{ad:=ad2,cap:=cap2},hs,hw.pm⟩
 case kk=>
 intro x y z t a W hs hw;have hw:Has 0 w0 W (FzF x.H (H.le x.H∧fN x.H (.slice x.ad m.es.length x.cap) m.es)::Sx.Own 38 13 (.slice z.ad (l ++ [m]).length z.cap) (l ++ [m]).length (xs ++ aF m (.slice x.ad m.es.length x.cap))::eO p (.slice z.ad (l ++ [m]).length z.cap)::R):=hw.pm;obtain ⟨⟨hle,hev⟩,hw⟩:=hw.unfzf;refine sv hs hw fun a hs=>?_;refine rt1 hs rfl rfl ⟨true,x.H,rfl,hle,?_⟩;rw [show oD l m=l ++ [m] from if_pos ⟨c1,hlt⟩];have hin:MsgIn x.H m (aF m (.slice x.ad m.es.length x.cap)):=⟨_,rfl,hev,hcs⟩
 refine lG (hw.pm:Has 0 w0 W (Sx.Own 38 13 (.slice z.ad (l ++ [m]).length z.cap) (l ++ [m]).length (xs ++ aF m (.slice x.ad m.es.length x.cap))::eO p (.slice z.ad (l ++ [m]).length z.cap)::Fz x.H::R)) ((hch.mono (MsgIn.le hle)).app (Ch.unit hin)) ⟨by rw [List.length_append,List.length_singleton];omega,fun m' hm'=>?_⟩;rcases List.mem_append.1 hm' with h|h
 ·exact hf.2 m' h
 ·rw [List.mem_singleton] at h;rw [h];exact hes.1
end
section
variable {H H':Fh} {p q pk pr pt:Nat} {s s':cW} {w0 W:World} {R L:List Res} {d d':bM} {k k':dD} {o:fT} {ms:List bF}
theorem aIU:aAo emptyT:=⟨rfl,fun r hr=>(by cases hr),⟨by decide,by decide⟩,by decide⟩
theorem aIV {id:Int} {first:List Int} {s':cW} (h:sN id first=some (d',s')):∃sz:Nat,pW none ⟨⟨0,0⟩,zeroSnap,[],0⟩ ⟨0,0,⟨(iM first).toArray⟩,⟨emptyData.toArray⟩⟩=some (d',⟨⟨0,0⟩,⟨0,0,⟨(iM first).toArray⟩,⟨emptyData.toArray⟩⟩,[],sz⟩)∧
  mR id ⟨0,0⟩ ⟨⟨0,0,⟨(iM first).toArray⟩,⟨emptyData.toArray⟩⟩,[]⟩ 0=some s'.r∧s'=⟨⟨⟨0,0⟩,⟨0,0,⟨(iM first).toArray⟩,⟨emptyData.toArray⟩⟩,[],sz⟩,s'.r,emptyT⟩∧lX s'=true∧eK ⟨0,0,⟨(iM first).toArray⟩,⟨emptyData.toArray⟩⟩=true:=by
 unfold sN at h;generalize (⟨(iM first).toArray⟩:ByteArray)=conf at *;generalize (⟨emptyData.toArray⟩:ByteArray)=data at *;simp only [Option.bind_eq_bind,Option.bind_eq_some_iff] at h;obtain ⟨⟨d1,k1⟩,h1,r1,h2,h3⟩:=h;have hk:=h1;unfold pW at hk;split at hk
 ·cases hk
 rename_i hn;have hm:eK ⟨0,0,conf,data⟩=true:=by cases hh:eK ⟨0,0,conf,data⟩ with|true=>rfl|false=>exact absurd (.inl hh) hn
 have hk:((mS (cY ⟨0,0,conf,data⟩ ++ cP ⟨0,0⟩ ++ ([]:List bY).flatMap cJ)).map fun d=>(d,(⟨⟨0,0⟩,⟨0,0,conf,data⟩,[],(cY ⟨0,0,conf,data⟩ ++ cP ⟨0,0⟩ ++ ([]:List bY).flatMap cJ).length⟩:dD)))=some (d1,k1):=hk;rw [Option.map_eq_some_iff] at hk;obtain ⟨x,_,h5⟩:=hk;injection h5 with _ h6;generalize (cY ⟨0,0,conf,data⟩ ++ cP ⟨0,0⟩ ++ ([]:List bY).flatMap cJ).length=sz at *;subst h6;split at h3
 ·rename_i hok;injection h3 with h3;injection h3 with e1 e2;subst e1 e2;exact ⟨sz,h1,h2,rfl,hok,hm⟩
 ·cases h3
theorem aIW {id:Int} {first:List Int} {fv:Value} (h:sN id first=some (d',s')) (hm:dB first=true) (hH:(fr w0).le H) (hT:Tabs w0) (hw:Has 0 w0 W (aM fv first::aB nameS q none::Fz H::R)):
  Calls prog 51 ⟨[.int .i64 id,ptr q,fv]⟩ W fun e W'=>∃(p:Nat) (H':Fh),e= .returned (.tuple ⟨[ptr p,.int .i64 0]⟩)∧H.le H'∧Has 0 w0 W' (cE H' p q s'::aB nameS q d'::aM fv first::Fz H'::R):=by
 obtain ⟨sz,hk,hr,hs',hok,hsm⟩:=aIV h;obtain ⟨r,hr0⟩:∃r,r=s'.r:=⟨_,rfl⟩
 rw [←hr0] at hr hs';clear hr0 h;subst hs';have hid:¬(id<1∨7<id):=by
  intro hn;unfold mR at hr;rw [if_pos (by rcases hn with h|h;exact .inl h;exact .inr (.inl h))] at hr;cases hr
 have hok:kC r=true∧kB emptyT=true:=by
  unfold lX at hok;simp only [Bool.and_eq_true] at hok;exact hok.1
 have hsz:(⟨emptyData.toArray⟩:ByteArray).size≤200000∧(⟨(iM first).toArray⟩:ByteArray).size≤1000000:=by
  unfold eK at hsm;simp only [Bool.and_eq_true,decide_eq_true_eq] at hsm;omega
 have hlog:pR ⟨0,0,⟨(iM first).toArray⟩,⟨emptyData.toArray⟩⟩ []=true:=rfl;have hld:eU (⟨emptyData.toArray⟩:ByteArray).data.toList=some emptyT:=by
  show eU emptyData.toArray.toList=some emptyT;rw [List.toList_toArray];exact aFr aIU
 obtain ⟨conf,hconf⟩:∃c:ByteArray,c=⟨(iM first).toArray⟩:=⟨_,rfl⟩
 obtain ⟨data,hdata⟩:∃c:ByteArray,c=⟨emptyData.toArray⟩:=⟨_,rfl⟩
 rw [←hdata] at hld;rw [←hconf,←hdata] at hk hr hsm hlog⊢;rw [←hconf,←hdata] at hsz;obtain ⟨fad,fcap,rfl⟩:=Has.own_slice hw;have hpos:0<first.length:=by
  unfold dB at hm;simp only [Bool.and_eq_true,decide_eq_true_eq] at hm;omega
 have hne:fad.isNone=false:=by
  obtain ⟨b,o,cap,hv,_⟩:=jX (hw.rd_own In.hd) hpos;injection hv with hv1 _ _;rw [hv1];rfl
 refine en Tryz.func51 Tryz.ntmps51 fun a hs=>?_;refine sv hs hw fun a hs=>?_;rw [show decide (id<1)=false from decide_eq_false (by omega)] at hs;refine sv hs hw fun a hs=>?_;rw [show decide (id > 7)=false from decide_eq_false (by omega)] at hs;refine sv hs hw fun a hs=>?_;refine sX hs (c:=fun a hs=>?_);rw [hne] at hs;refine sx hs hw fun a W hs hw=>?_;rw [hm] at hs;refine sv hs hw fun a hs=>?_;have hw:Has 0 w0 W (aB nameS q none::aM (.slice fad first.length fcap) first::Fz H::R):=hw.swap2;refine cle hs (aGe hw) fun pk a W _ hs hw=>?_;refine sv hs hw fun a hs=>?_;have hw:Has 0 w0 W (aB nameS q none::bO pk q ⟨0,0⟩ zeroSnap (.slice none 0 0) 0::aM (.slice fad first.length fcap) first::Fz H::R):=hw.swap2;refine cle hs (xA sU hw) fun x a W _ hs hw=>?_;rw [show (eY nameS none).length=0 from rfl] at hs;have hw:Has 0 w0 W (bO pk q ⟨0,0⟩ zeroSnap (.slice none 0 0) 0::aB nameS q none::aM (.slice fad first.length fcap) first::Fz H::R):=hw.sl;refine sv hs hw fun a hs=>?_;refine cl hs ((aGr (l:=first)).ok hw) fun a W hs hw=>?_;rw [←hconf] at hs;refine aH hs (hc:=aAs w0 _ H _ hw) (k:=?_);rintro e' W' ⟨t0,rfl,hw⟩;refine ⟨_,rfl,fun a hs=>?_⟩;have hw:Has 0 w0 W' (aN H t0 emptyT::Fz H::bO pk q ⟨0,0⟩ zeroSnap (.slice none 0 0) 0::aB nameS q none::aM (.slice fad first.length fcap) first::R):=hw.pm;refine cl hs (aAw w0 _ H t0 emptyT _ (by decide) ⟨by decide,by decide⟩ (fun r hr=>by cases hr) hH hT hw) fun a W hs hw=>?_;rw [show (⟨(jU emptyT).toArray⟩:ByteArray)=data from hdata.symm] at hs;refine sv hs hw fun a hs=>?_;have hw:Has 0 w0 W (bO pk q ⟨0,0⟩ zeroSnap (.slice none 0 0) 0::aB nameS q none::aM (.slice fad first.length fcap) first::Fz H::R):=hw.sl;refine cl hs (aGf conf data hk hw) fun a W hs hw=>?_;refine sv hs hw fun a hs=>?_;obtain ⟨hko,kad,kcap,hw⟩:=qE hw;have hw:Has 0 w0 W (bO pk q ⟨0,0⟩ ⟨0,0,conf,data⟩ (.slice kad 0 kcap) sz::dE (.slice kad 0 kcap) []::aB nameS q d'::aM (.slice fad first.length fcap) first::Fz H::R):=hw;refine cle hs (p9 (log:=[]) (by decide) (fun h=>h.rd_sub In.hd) hw) fun ys a W _ hs hw=>?_;refine sn hs hw fun b11 a W hs hw=>?_;refine sx hs hw fun a W hs hw=>?_;have hw:Has 0 w0 W (Fz H::aA b11 (cX ⟨0,0⟩ ⟨0,0,conf,data⟩ (.slice ys.1 0 ys.2)) 158::bE (.slice ys.1 0 ys.2) []::bO pk q ⟨0,0⟩ ⟨0,0,conf,data⟩ (.slice kad 0 kcap) sz::dE (.slice kad 0 kcap) []::aB nameS q d'::aM (.slice fad first.length fcap) first::R):=hw.pm;refine aH hs (hc:=aAx w0 W H data _ hsz.1 hH hT hw) (k:=?_);rintro e' W' ⟨H1,hle1,⟨h9,_⟩|⟨t,pt,hl9,rfl,hw⟩⟩
 ·rw [hld] at h9;cases h9
 obtain rfl:emptyT=t:=by rw [hld] at hl9;exact Option.some.inj hl9
 refine ⟨_,rfl,fun a hs=>?_⟩;refine sv hs hw fun a hs=>?_;replace hs:Slots a 91 [(0,.int .i64 id),(8,ptr pk),(9,.int .i64 0),(11,ptr b11),(12,ptr pt)]:=hs.ot;have hw:Has 0 w0 W' (aA b11 (cX ⟨0,0⟩ ⟨0,0,conf,data⟩ (.slice ys.1 0 ys.2)) 158::bE (.slice ys.1 0 ys.2) []::aN H1 pt emptyT::Fz H1::bO pk q ⟨0,0⟩ ⟨0,0,conf,data⟩ (.slice kad 0 kcap) sz::dE (.slice kad 0 kcap) []::aB nameS q d'::aM (.slice fad first.length fcap) first::R):=hw.pm;refine bB [7,11] [.f 0 1,.f 0 1,.f 0 1,.f 0 0,.f 0 0,.f 0 0,.f 0 0,.m 0,.f 0 1,.f 0 1,.f 0 1,.m 1,.f 2 2] [.c0 _,.c0 _,.c0 _,.c0 _,.c0 _,.c0 _,.c0 _,.c1 (fun x=>ptr x.n),.c0 _,.c0 _,.c0 _,.c2 (fun x y=>ptr y.n),.c2 _] (aA b11 (cX ⟨0,0⟩ ⟨0,0,conf,data⟩ (.slice ys.1 0 ys.2)) 158::bE (.slice ys.1 0 ys.2) []::aN H1 pt emptyT::Fz H1::bO pk q ⟨0,0⟩ ⟨0,0,conf,data⟩ (.slice kad 0 kcap) sz::dE (.slice kad 0 kcap) []::aB nameS q d'::aM (.slice fad first.length fcap) first::R) (fun x=>aG x.n ⟨⟨0,0,conf,data⟩,[]⟩::aA b11 (cX ⟨0,0⟩ ⟨0,0,conf,data⟩ (.slice ys.1 0 ys.2)) 158::bE (.slice ys.1 0 ys.2) []::aN H1 pt emptyT::Fz H1::bO pk q ⟨0,0⟩ ⟨0,0,conf,data⟩ (.slice kad 0 kcap) sz::dE (.slice kad 0 kcap) []::aB nameS q d'::aM (.slice fad first.length fcap) first::R) (fun x y=>aE H1 y.n r::aA b11 (cX ⟨0,0⟩ ⟨0,0,conf,data⟩ (.slice ys.1 0 ys.2)) 158::bE (.slice ys.1 0 ys.2) []::aN H1 pt emptyT::Fz H1::bO pk q ⟨0,0⟩ ⟨0,0,conf,data⟩ (.slice kad 0 kcap) sz::dE (.slice kad 0 kcap) []::aB nameS q d'::aM (.slice fad first.length fcap) first::R) (fun x y z=>[]) (fun x y z t=>[]) hs hw ?kk ⟨drs,drs,drs,drs,drs,drs,drs,?m0,drs,drs,drs,?m1,drs,trivial⟩
 case m0=>
  intro x y z u LD a W hs hw;refine cle hs (aBj ⟨0,0,conf,data⟩ [] (.slice ys.1 0 ys.2) hlog hsz.2 (fun e he=>by cases he) (fun h=>h.rd_own (In.tl In.hd)) hw) fun ql a W _ hs hw=>?_;exact ⟨{n:=ql},hs,hw⟩
 case m1=>
  intro x y z u LD a W hs hw;refine cle hs (aBt (H:=H1) id ⟨0,0⟩ 0 hr hw) fun qr a W _ hs hw=>?_;exact ⟨{n:=qr},hs,hw⟩
 case kk=>
 intro _ yy a W hs hw;obtain ⟨pr,hpr⟩:∃pr,pr=yy.n:=⟨_,rfl⟩
 replace hs:Slots a 91 [(0,.int .i64 id),(8,ptr pk),(9,.int .i64 0),(11,ptr b11),(12,ptr pt),(13,ptr yy.n)]:=hs.ot;have hw:Has 0 w0 W (aN H1 pt emptyT::aE H1 yy.n r::aA b11 (cX ⟨0,0⟩ ⟨0,0,conf,data⟩ (.slice ys.1 0 ys.2)) 158::bE (.slice ys.1 0 ys.2) []::Fz H1::bO pk q ⟨0,0⟩ ⟨0,0,conf,data⟩ (.slice kad 0 kcap) sz::dE (.slice kad 0 kcap) []::aB nameS q d'::aM (.slice fad first.length fcap) first::R):=hw.pm;rw [←hpr] at hs hw;clear hpr;refine sc hs ?_;refine bB [8] [.f 0 0,.f 0 0,.f 0 0,.f 0 0,.f 0 0,.f 0 0,.f 0 0,.f 0 0,.m 0,.f 0 1,.f 0 1,.f 0 1,.f 1 1,.f 1 1] [.c0 _,.c0 _,.c0 _,.c0 _,.c0 _,.c0 _,.c0 _,.c0 _,.c1 (fun x=> .int .i64 emptyT.ix),.c0 _,.c0 _,.c0 _,.c1 (fun x=> .bool false),.c1 _] (aN H1 pt emptyT::aE H1 pr r::aA b11 (cX ⟨0,0⟩ ⟨0,0,conf,data⟩ (.slice ys.1 0 ys.2)) 158::bE (.slice ys.1 0 ys.2) []::Fz H1::bO pk q ⟨0,0⟩ ⟨0,0,conf,data⟩ (.slice kad 0 kcap) sz::dE (.slice kad 0 kcap) []::aB nameS q d'::aM (.slice fad first.length fcap) first::R) (fun x=>aN H1 pt emptyT::aE H1 pr r::aA b11 (cX ⟨0,0⟩ ⟨0,0,conf,data⟩ (.slice ys.1 0 ys.2)) 158::bE (.slice ys.1 0 ys.2) []::Fz H1::bO pk q ⟨0,0⟩ ⟨0,0,conf,data⟩ (.slice kad 0 kcap) sz::dE (.slice kad 0 kcap) []::aB nameS q d'::aM (.slice fad first.length fcap) first::R) (fun x y=>[]) (fun x y z=>[]) (fun x y z t=>[]) hs hw ?kk ⟨drs,drs,drs,drs,drs,drs,drs,drs,?m0,drs,drs,drs,?f12,drs,trivial⟩
 case m0=>
  intro x y z u LD a W hs hw;refine sc hs ?_;refine cl hs (pO w0 _ H1 pt emptyT _ hw) fun a W hs hw=>?_;exact ⟨{},hs,hw⟩
 case f12=>
  refine ⟨trivial,?_,trivial,trivial,trivial⟩;intro x y z u LD a W hs hw;refine sv hs hw fun a hs=>?_;exact ⟨hs,hw⟩
 case kk=>
 intro _ a W hs hw;refine sv hs hw fun a hs=>?_;refine sn hs hw fun b90 a W hs hw=>?_;refine sv hs hw fun a hs=>?_;refine rt2 hs rfl rfl rfl ⟨b90,H1,rfl,hle1,?_⟩;have hw:Has 0 w0 W (bO pk q ⟨0,0⟩ ⟨0,0,conf,data⟩ (.slice kad 0 kcap) sz::dE (.slice kad 0 kcap) []::aQ b90 pk pr pt::aE H1 pr r::aN H1 pt emptyT::aB nameS q d'::aM (.slice fad first.length fcap) first::Fz H1::R):=hw.sl;have hw:Has 0 w0 W (aW pk q ⟨⟨0,0⟩,⟨0,0,conf,data⟩,[],sz⟩::aQ b90 pk pr pt::aE H1 pr r::aN H1 pt emptyT::aB nameS q d'::aM (.slice fad first.length fcap) first::Fz H1::R):=wZ (k:=⟨⟨0,0⟩,⟨0,0,conf,data⟩,[],sz⟩) hw hko;exact jF (s:=⟨⟨⟨0,0⟩,⟨0,0,conf,data⟩,[],sz⟩,r,emptyT⟩) (hw.pm) hok.1 hok.2
end
section
variable {H H':Fh} {p q pk pr pt:Nat} {s s':cW} {w0 W:World} {R L:List Res} {d d':bM} {k k':dD} {o:fT} {ms:List bF}
theorem aId {id:Int} {fd:jD} (h:uB id (some fd)=some s'):∃(k:dD) (t:dU) (r:RaftD),rC fd.b=some k∧eU k.s.data.data.toList=some t∧mR id k.h ⟨k.s,k.log⟩ k.s.ix=some r∧t.ix=k.s.ix∧1≤id∧id≤7∧kC r=true∧kB t=true∧pR k.s k.log=true∧k.s.conf.size≤1000000∧k.s.data.size≤200000∧(∀e∈k.log,e.data.size≤1000000)∧fd.b.length≤1048576∧s'=⟨k,r,t⟩:=by
 unfold uB at h;simp only at h;obtain ⟨k,h1,h⟩:=Option.bind_eq_some_iff.1 h;obtain ⟨t,h2,h⟩:=Option.bind_eq_some_iff.1 h;obtain ⟨r,h3,h⟩:=Option.bind_eq_some_iff.1 h;split at h
 ·rename_i h4;injection h with h;obtain ⟨g1,g2,g3,g4,g5,g6⟩:=h4;unfold lX at g4;unfold aCV at g5;simp only [Bool.and_eq_true,decide_eq_true_eq,List.all_eq_true] at g4 g5;exact ⟨k,t,r,h1,h2,h3,g1,g2,g3,g4.1.1,g4.1.2,g5.1.1.1,g5.1.1.2,g5.1.2,g5.2,g6,h.symm⟩
 ·cases h
theorem aIe {id:Int} {fd:jD} (h:uB id (some fd)=some s') (hH:(fr w0).le H) (hT:Tabs w0) (hw:Has 0 w0 W (aB nameS q (some fd)::Fz H::R)):
  Calls prog 51 ⟨[.int .i64 id,ptr q,.slice none 0 0]⟩ W fun e W'=>∃(p:Nat) (H':Fh),e= .returned (.tuple ⟨[ptr p,.int .i64 0]⟩)∧H.le H'∧Has 0 w0 W' (cE H' p q s'::aB nameS q (some fd)::Fz H'::R):=by
 obtain ⟨k,tb,r,hk,hld,hr,htix,hid1,hid7,hok1,hok2,hlog,hcs,hds,hes,hfl,rfl⟩:=aId h;clear h;refine en Tryz.func51 Tryz.ntmps51 fun a hs=>?_;refine sv hs hw fun a hs=>?_;rw [show decide (id<1)=false from decide_eq_false (by omega)] at hs;refine sv hs hw fun a hs=>?_;rw [show decide (id > 7)=false from decide_eq_false (by omega)] at hs;refine sv hs hw fun a hs=>?_;refine sX hs (c:=fun a hs=>?_);refine sv hs hw fun a hs=>?_;refine aH hs (hc:=aIc hk hfl hw) (k:=?_);rintro e' W ⟨pk,H0,rfl,hle0,hw⟩;refine ⟨_,rfl,fun a hs=>?_⟩;refine sv hs hw fun a hs=>?_;have hw:Has 0 w0 W (aB nameS q (some fd)::aW pk q k::Fz H0::R):=hw.swap2;refine cle hs (xA sU hw) fun x a W _ hs hw=>?_;rw [show (eY nameS (some fd)).length=1 from rfl] at hs;have hw:Has 0 w0 W (aW pk q k::aB nameS q (some fd)::Fz H0::R):=hw.sl;refine sv hs hw fun a hs=>?_;obtain ⟨hko,kad,kcap,hw⟩:=qE hw;have hkl:=hko.1;refine cle hs (p9 (by omega) (fun h=>h.rd_sub In.hd) hw) fun ys a W _ hs hw=>?_;refine sn hs hw fun b11 a W hs hw=>?_;refine sx hs hw fun a W hs hw=>?_;have hw:Has 0 w0 W (Fz H0::aA b11 (cX k.h k.s (.slice ys.1 k.log.length ys.2)) 158::bE (.slice ys.1 k.log.length ys.2) k.log::bO pk q k.h k.s (.slice kad k.log.length kcap) k.size::dE (.slice kad k.log.length kcap) k.log::aB nameS q (some fd)::R):=hw.pm;refine aH hs (hc:=aAx w0 W H0 k.s.data _ hds (hH.trans hle0) hT hw) (k:=?_);rintro e' W' ⟨H1,hle1,⟨h9,_⟩|⟨t2,pt,hl9,rfl,hw⟩⟩
 ·rw [hld] at h9;cases h9
 obtain rfl:tb=t2:=by rw [hld] at hl9;exact Option.some.inj hl9
 refine ⟨_,rfl,fun a hs=>?_⟩;refine sv hs hw fun a hs=>?_;replace hs:Slots a 91 [(0,.int .i64 id),(8,ptr pk),(9,.int .i64 0),(11,ptr b11),(12,ptr pt)]:=hs.ot;have hw:Has 0 w0 W' (aA b11 (cX k.h k.s (.slice ys.1 k.log.length ys.2)) 158::bE (.slice ys.1 k.log.length ys.2) k.log::aN H1 pt tb::Fz H1::bO pk q k.h k.s (.slice kad k.log.length kcap) k.size::dE (.slice kad k.log.length kcap) k.log::aB nameS q (some fd)::R):=hw.pm;refine bB [7,11] [.f 0 1,.f 0 1,.f 0 1,.f 0 0,.f 0 0,.f 0 0,.f 0 0,.m 0,.f 0 1,.f 0 1,.f 0 1,.m 1,.f 2 2] [.c0 _,.c0 _,.c0 _,.c0 _,.c0 _,.c0 _,.c0 _,.c1 (fun x=>ptr x.n),.c0 _,.c0 _,.c0 _,.c2 (fun x y=>ptr y.n),.c2 _] (aA b11 (cX k.h k.s (.slice ys.1 k.log.length ys.2)) 158::bE (.slice ys.1 k.log.length ys.2) k.log::aN H1 pt tb::Fz H1::bO pk q k.h k.s (.slice kad k.log.length kcap) k.size::dE (.slice kad k.log.length kcap) k.log::aB nameS q (some fd)::R) (fun x=>aG x.n ⟨k.s,k.log⟩::aA b11 (cX k.h k.s (.slice ys.1 k.log.length ys.2)) 158::bE (.slice ys.1 k.log.length ys.2) k.log::aN H1 pt tb::Fz H1::bO pk q k.h k.s (.slice kad k.log.length kcap) k.size::dE (.slice kad k.log.length kcap) k.log::aB nameS q (some fd)::R) (fun x y=>aE H1 y.n r::aA b11 (cX k.h k.s (.slice ys.1 k.log.length ys.2)) 158::bE (.slice ys.1 k.log.length ys.2) k.log::aN H1 pt tb::Fz H1::bO pk q k.h k.s (.slice kad k.log.length kcap) k.size::dE (.slice kad k.log.length kcap) k.log::aB nameS q (some fd)::R) (fun x y z=>[]) (fun x y z t=>[]) hs hw ?kk ⟨drs,drs,drs,drs,drs,drs,drs,?m0,drs,drs,drs,?m1,drs,trivial⟩
 case m0=>
  intro x y z u LD a W hs hw;refine cle hs (aBj k.s k.log (.slice ys.1 k.log.length ys.2) hlog hcs hes (fun h=>h.rd_own (In.tl In.hd)) hw) fun ql a W _ hs hw=>?_;exact ⟨{n:=ql},hs,hw⟩
 case m1=>
  intro x y z u LD a W hs hw;refine cle hs (aBt (H:=H1) id k.h k.s.ix hr hw) fun qr a W _ hs hw=>?_;exact ⟨{n:=qr},hs,hw⟩
 case kk=>
 intro _ yy a W hs hw;obtain ⟨pr,hpr⟩:∃pr,pr=yy.n:=⟨_,rfl⟩
 replace hs:Slots a 91 [(0,.int .i64 id),(8,ptr pk),(9,.int .i64 0),(11,ptr b11),(12,ptr pt),(13,ptr yy.n)]:=hs.ot;have hw:Has 0 w0 W (aN H1 pt tb::aE H1 yy.n r::aA b11 (cX k.h k.s (.slice ys.1 k.log.length ys.2)) 158::bE (.slice ys.1 k.log.length ys.2) k.log::Fz H1::bO pk q k.h k.s (.slice kad k.log.length kcap) k.size::dE (.slice kad k.log.length kcap) k.log::aB nameS q (some fd)::R):=hw.pm;rw [←hpr] at hs hw;clear hpr;refine sc hs ?_;refine bB [8] [.f 0 0,.f 0 0,.f 0 0,.f 0 0,.f 0 0,.f 0 0,.f 0 0,.f 0 0,.m 0,.f 0 1,.f 0 1,.f 0 1,.f 1 1,.f 1 1] [.c0 _,.c0 _,.c0 _,.c0 _,.c0 _,.c0 _,.c0 _,.c0 _,.c1 (fun x=> .int .i64 tb.ix),.c0 _,.c0 _,.c0 _,.c1 (fun x=> .bool false),.c1 _] (aN H1 pt tb::aE H1 pr r::aA b11 (cX k.h k.s (.slice ys.1 k.log.length ys.2)) 158::bE (.slice ys.1 k.log.length ys.2) k.log::Fz H1::bO pk q k.h k.s (.slice kad k.log.length kcap) k.size::dE (.slice kad k.log.length kcap) k.log::aB nameS q (some fd)::R) (fun x=>aN H1 pt tb::aE H1 pr r::aA b11 (cX k.h k.s (.slice ys.1 k.log.length ys.2)) 158::bE (.slice ys.1 k.log.length ys.2) k.log::Fz H1::bO pk q k.h k.s (.slice kad k.log.length kcap) k.size::dE (.slice kad k.log.length kcap) k.log::aB nameS q (some fd)::R) (fun x y=>[]) (fun x y z=>[]) (fun x y z t=>[]) hs hw ?kk ⟨drs,drs,drs,drs,drs,drs,drs,drs,?m0,drs,drs,drs,?f12,drs,trivial⟩
 case m0=>
  intro x y z u LD a W hs hw;refine sc hs ?_;refine cl hs (pO w0 _ H1 pt tb _ hw) fun a W hs hw=>?_;exact ⟨{},hs,hw⟩
 case f12=>
  refine ⟨trivial,?_,trivial,trivial,trivial⟩;intro x y z u LD a W hs hw;refine sv hs hw fun a hs=>?_;rw [show (tb.ix !=k.s.ix)=false by rw [htix];simp] at hs;exact ⟨hs,hw⟩
 case kk=>
 intro _ a W hs hw;refine sv hs hw fun a hs=>?_;refine sn hs hw fun b90 a W hs hw=>?_;refine sv hs hw fun a hs=>?_;refine rt2 hs rfl rfl rfl ⟨b90,H1,rfl,hle0.trans hle1,?_⟩;have hw:Has 0 w0 W (bO pk q k.h k.s (.slice kad k.log.length kcap) k.size::dE (.slice kad k.log.length kcap) k.log::aQ b90 pk pr pt::aE H1 pr r::aN H1 pt tb::aB nameS q (some fd)::Fz H1::R):=hw.sl;have hw:Has 0 w0 W (aW pk q k::aQ b90 pk pr pt::aE H1 pr r::aN H1 pt tb::aB nameS q (some fd)::Fz H1::R):=wZ hw hko;exact jF (s:=⟨k,r,tb⟩) (hw.pm) hok1 hok2
end
end Go.Proofs.YtgpbngfehfbndaaGreatDoor.Sw
