import Derived.Test.YtgpbngfehfbndaaGreatDoorV30
import Derived.Test.YtgpbngfehfbndaaGreatDoorV31
import Derived.Test.YtgpbngfehfbndaaGreatDoorV32
set_option maxHeartbeats 16000000
set_option linter.all false
set_option maxRecDepth 10000
namespace Go.Proofs.YtgpbngfehfbndaaGreatDoor.Sw
open Go.RowKit Go.Sx
open Go.Proofs.Tryz (prog)
section
variable {H H':Fh} {p q b:Nat} {w0 W:World} {R L:List Res} {u u':cZ} {d d':bM} {err:Int}
def cQ (H:Fh) (p q:Nat) (u:cZ):Res:=Ex fun b:Nat=>aA p [ptr b] 116::eN H b q u:: []
theorem nA (h:Has 0 w0 W (aA p [ptr b] 116::eN H b q u::R)):Has 0 w0 W (cQ H p q u::R):=Has.shut b h
theorem nB (h:Has 0 w0 W (cQ H p q u::R)):∃b,Has 0 w0 W (aA p [ptr b] 116::eN H b q u::R):=Has.open h
theorem aCK (h:Has 0 w0 W (cQ H p q u::R)) (hl:H.le H'):Has 0 w0 W (cQ H' p q u::R):=by
 obtain ⟨b,h⟩:=nB h;exact nA (aCD h.swap2 hl).swap2
instance (H H':Fh) (p q:Nat) (u:cZ):gZ H H' (cQ H p q u) (cQ H' p q u):=⟨fun hl h=>aCK h hl⟩
theorem aHo (H:Fh) (c:Int) (ho:gM (eI c)=true) (hw:Has 0 w0 W (aB nameQ q none::R)):
  Calls prog 76 ⟨[.int .i64 c,ptr q]⟩ W fun e W'=>∃p:Nat,e= .returned (.tuple ⟨[ptr p,.int .i64 0]⟩)∧True∧Has 0 w0 W' (cQ H p q (eI c)::aB nameQ q none::R):=by
 refine en Tryz.func76 Tryz.ntmps76 fun a hs=>?_;refine sv hs hw fun a hs=>?_;refine cle hs (aHn H c ho hw) fun b a W _ hs hw=>?_;refine sv hs hw fun a hs=>?_;rw [show ((0:Int) !=0)=false from rfl] at hs;refine sn hs hw fun p a W hs hw=>?_;refine sv hs hw fun a hs=>?_;exact rt2 hs rfl rfl rfl ⟨p,rfl,trivial,nA hw⟩
theorem aHp (ops:List OpD) {bt:cT} {bad:Option Addr} {bcap:Nat} (hops:∀o∈ops,OpOk o) (h8:ops.length≤8) (hv:cG H (.slice bad ops.length bcap) ops) (h:tJ d u ops=some (d',u',bt,err)) (hH:(fr w0).le H) (hT:Tabs w0) (hw:Has 0 w0 W (cQ H p q u::aB nameQ q d::Fz H::R)):
  Calls prog 52 ⟨[ptr p,.slice bad ops.length bcap]⟩ W fun e W'=>∃(v:Value) (H':Fh),e= .returned (.tuple ⟨[.agg ⟨aK bt v⟩,.int .i64 err]⟩)∧H.le H'∧cG H' v bt.l∧Has 0 w0 W' (cQ H' p q u'::aB nameQ q d'::Fz H'::R):=by
 obtain ⟨b,hw⟩:=nB hw;refine en Tryz.func52 Tryz.ntmps52 fun a hs=>?_;refine sc hs ?_;refine sn hs hw fun b4 a W hs hw=>?_;refine sx hs hw fun a W hs hw=>?_;have hw:Has 0 w0 W (eN H b q u::aB nameQ q d::Fz H::aA p [ptr b] 116::aA b4 (aK ⟨0,0,[]⟩ (.slice none 0 0)) 66::R):=hw.sl;refine aH hs (hc:=aHi ops hops h8 hv h hH hT hw) (k:=?_);rintro e' W ⟨v',H3,rfl,hle3,hv3,hw⟩;refine ⟨_,rfl,fun a hs=>?_⟩;obtain ⟨tad,tcap,rfl⟩:=hv3.slice;refine sx hs hw fun a W hs hw=>?_;refine rc2 hs rfl rfl hw inn rfl rfl ⟨_,H3,rfl,hle3,hv3,?_⟩;have hw:Has 0 w0 W (aA p [ptr b] 116::eN H3 b q u'::aB nameQ q d'::Fz H3::R):=hw.sl;exact nA hw
theorem aCL (hw:Has 0 w0 W (cQ H p q u::Fz H::R)):
  Calls prog 97 ⟨[ptr p]⟩ W fun e W'=>∃(v:Value) (H':Fh),e= .returned v∧H.le H'∧aAf H' v (iD u)∧Has 0 w0 W' (cQ H' p q u::Fz H'::R):=by
 obtain ⟨b,hw⟩:=nB hw;refine en Tryz.func97 Tryz.ntmps97 fun a hs=>?_;refine sv hs hw fun a hs=>?_;have hw:Has 0 w0 W (eN H b q u::Fz H::aA p [ptr b] 116::R):=hw.pm;refine aH hs (hc:=aHf hw) (k:=?_);rintro e' W ⟨v',H3,rfl,hle3,hv3,hw⟩;refine ⟨_,rfl,fun a hs=>?_⟩;refine sv hs hw fun a hs=>?_;exact rt1 hs rfl rfl ⟨_,H3,rfl,hle3,hv3,nA (hw.pm)⟩
theorem aHq (rows:List cC) {v:Value} {n:Nat} (hrl:rows.length≤1000) (hro:∀r∈rows,jT r) (hv:jB H v rows) (h:tL d u rows=some (d',u',n,err)) (hH:(fr w0).le H) (hT:Tabs w0) (hw:Has 0 w0 W (cQ H p q u::aB nameQ q d::Fz H::R)):
  Calls prog 106 ⟨[ptr p,v]⟩ W fun e W'=>∃H':Fh,e= .returned (.tuple ⟨[.int .i64 (n:Int),.int .i64 err]⟩)∧H.le H'∧Has 0 w0 W' (cQ H' p q u'::aB nameQ q d'::Fz H'::R):=by
 obtain ⟨b,hw⟩:=nB hw;refine en Tryz.func106 Tryz.ntmps106 fun a hs=>?_;refine sv hs hw fun a hs=>?_;have hw:Has 0 w0 W (eN H b q u::aB nameQ q d::Fz H::aA p [ptr b] 116::R):=hw.pm;refine aH hs (hc:=aHl rows hrl hro hv h hH hT hw) (k:=?_);rintro e' W ⟨H3,rfl,hle3,hw⟩;refine ⟨_,rfl,fun a hs=>?_⟩;refine sv hs hw fun a hs=>?_;exact rt2 hs rfl rfl rfl ⟨H3,rfl,hle3,nA (hw.pm)⟩
theorem aHr {b:Nat} (hw:Has 0 w0 W (eN H b q u::R)):
  ∃ps ad cap xs,(∀{W:World} {R:List Res},Has 0 w0 W (bK b q u.c (.slice ad u.added.length cap) ps::aV H ps u.s::Sx.Own 66 3 (.slice ad u.added.length cap) u.added.length xs::R)→Has 0 w0 W (eN H b q u::R))∧Has 0 w0 W (bK b q u.c (.slice ad u.added.length cap) ps::aV H ps u.s::Sx.Own 66 3 (.slice ad u.added.length cap) u.added.length xs::R):=by
 obtain ⟨ho,ps,ad,cap,xs,hc,hw⟩:=lE hw;exact ⟨ps,ad,cap,xs,fun h=>lD (h.pm) hc ho,hw.pm⟩
theorem tR (hw:Has 0 w0 W (cQ H p q u::R)):
  Calls prog 105 ⟨[ptr p]⟩ W fun e W'=>e= .returned (.int .i64 (iU u))∧Has 0 w0 W' (cQ H p q u::R):=by
 obtain ⟨b,hw⟩:=nB hw;obtain ⟨ho,_⟩:=lE hw.swap2;have hsl:=(m9 ho).rows.1;refine en Tryz.func105 Tryz.ntmps105 fun a hs=>?_;refine sv hs hw fun a hs=>?_;obtain ⟨ps,ad,cap,xs,back,hw⟩:=aHr hw.swap2;refine cl hs (aCF hw) fun a W hs hw=>?_;have hw:Has 0 w0 W (aV H ps u.s::bK b q u.c (.slice ad u.added.length cap) ps::Sx.Own 66 3 (.slice ad u.added.length cap) u.added.length xs::aA p [ptr b] 116::R):=hw.pm;refine cl hs (sA w0 W H ps u.s _ (by omega) hw) fun a W hs hw=>?_;refine sv hs hw fun a hs=>?_;exact rt1 hs rfl rfl ⟨rfl,nA (back (hw.pm)).swap2⟩
theorem aHs (hw:Has 0 w0 W (cQ H p q u::Fz H::R)):
  Calls prog 30 ⟨[ptr p]⟩ W fun e W'=>∃(v:Value) (H':Fh),e= .returned v∧H.le H'∧jB H' v u.s.l∧Has 0 w0 W' (cQ H' p q u::Fz H'::R):=by
 obtain ⟨b,hw⟩:=nB hw;obtain ⟨ho,_⟩:=lE hw.swap2;have hf:=m9 ho;have hsl:=hf.rows.1;refine en Tryz.func30 Tryz.ntmps30 fun a hs=>?_;refine sv hs hw fun a hs=>?_;obtain ⟨ps,ad,cap,xs,hc,hw⟩:=(lE hw.swap2).2;refine cl hs (aCF hw) fun a W hs hw=>?_;have hw:Has 0 w0 W (aV H ps u.s::Fz H::bK b q u.c (.slice ad u.added.length cap) ps::Sx.Own 66 3 (.slice ad u.added.length cap) u.added.length xs::aA p [ptr b] 116::R):=hw.pm;refine aH hs (hc:=aAe w0 W H ps u.s _ (by omega) (fun r hr=>by have:=(hf.rows.2 r hr).1.2;omega) hw) (k:=?_);rintro e' W ⟨rad,rcap,ys,H4,rfl,hle4,hch4,hw⟩;refine ⟨_,rfl,fun a hs=>?_⟩;have hw:Has 0 w0 W (Sx.Own 68 5 (.slice rad u.s.l.length rcap) u.s.l.length ys::Fz H4::aV H4 ps u.s::bK b q u.c (.slice ad u.added.length cap) ps::Sx.Own 66 3 (.slice ad u.added.length cap) u.added.length xs::aA p [ptr b] 116::R):=hw.pm;obtain ⟨H5,hle5,hw,hr5⟩:=hw.freeze_own;have hw:=hw.lz hle5;refine sv hs hw fun a hs=>?_;refine rt1 hs rfl rfl ⟨_,H5,rfl,hle4.trans hle5,⟨ys,hr5,hch4.mono (RowIn.le hle5)⟩,?_⟩;have hw:Has 0 w0 W (bK b q u.c (.slice ad u.added.length cap) ps::Sx.Own 66 3 (.slice ad u.added.length cap) u.added.length xs::aV H5 ps u.s::aA p [ptr b] 116::Fz H5::R):=hw.pm;exact nA (lD hw (hc.mono (BatIn.le (hle4.trans hle5))) ho).swap2
end
section
variable {α:Type} {w0 W:World} {R L:List Res} {H H':Fh}
def fH (L:List Res):Res:=Ex fun _:Unit=>L
theorem jH (h:Has 0 w0 W (L ++ R)):Has 0 w0 W (fH L::R):=Has.shut (Ls:=fun _:Unit=>L) () h
theorem l7 (h:Has 0 w0 W (fH L::R)):Has 0 w0 W (L ++ R):=by
 obtain ⟨_,h⟩:=Has.open h;exact h
theorem oH:∀{l:List (Int×α)} {k:Int} {v:α},at? l k=some v→∃l1 l2,l=l1 ++ (k,v)::l2∧(∀v',cH l k v'=l1 ++ (k,v')::l2)
 | [],_,_,h=>by cases h
 |p::l,k,v,h=>by
  unfold at? at h;split at h
  ·rename_i h1;injection h with h;refine ⟨[],l,by rw [←h1,←h];rfl,fun v'=>?_⟩;unfold cH;rw [if_pos h1];rfl
  ·rename_i h1;obtain ⟨l1,l2,e1,e2⟩:=oH h;refine ⟨p::l1,l2,by rw [e1];rfl,fun v'=>?_⟩;unfold cH;rw [if_neg h1,e2];rfl
theorem oI {l:List (Int×α)} {k:Int} {v v':α} (h:at? l k=some v):(cH l k v').map (·.1)=l.map (·.1):=by
 obtain ⟨l1,l2,e1,e2⟩:=oH h;rw [e2,e1];simp
theorem aCS {f g:Int×α→Res} (hf:∀{W R} x,Has 0 w0 W (f x::R)→Has 0 w0 W (g x::R)):∀{l:List (Int×α)} {R:List Res},Has 0 w0 W (l.map f ++ R)→Has 0 w0 W (l.map g ++ R)
 | [],_,h=>h
 |x::l,R,h=>by
  have h:=hf x h;have h:Has 0 w0 W (l.map f ++ g x::R):=h.perm List.perm_middle.symm;exact (aCS hf h).perm List.perm_middle
theorem aCT {l:List (Int×α)} {f g:Int×α→Res} (hf:∀{W R} x,Has 0 w0 W (f x::R)→Has 0 w0 W (g x::R)) (h:Has 0 w0 W (fH (l.map f)::R)):Has 0 w0 W (fH (l.map g)::R):=jH (aCS hf (l7 h))
structure WPt where
 ms:Nat
 mc:Nat
 md:Nat
 me:Nat
 pn:Nat
 ps:Int→Nat
 pc:Int→Nat
 qs:Int→Nat
 qc:Int→Nat
abbrev aR (p:Nat) (k:WPt):Res:=aA p [.map (some k.ms),.map (some k.mc),.map (some k.md),.map (some k.me),ptr k.pn] 86
def kvs (f:Int→Nat) (l:List Int):KVI:=l.map fun x=>(x,ptr (f x))
def aP (H:Fh) (ps qs:Int→Nat) (l:List (Int×cW)):Res:=fH (l.map fun x=>cE H (ps x.1) (qs x.1) x.2)
def aS (H:Fh) (pc qc:Int→Nat) (l:List (Int×cZ)):Res:=fH (l.map fun x=>cQ H (pc x.1) (qc x.1) x.2)
def aC (nm:ByteArray) (q:Int→Nat) (l:List (Int×bM)):Res:=fH (l.map fun x=>aB nm (q x.1) x.2)
instance (H H':Fh) (f g:Int→Nat) (l:List (Int×cW)):gZ H H' (aP H f g l) (aP H' f g l):=⟨fun hl h=>aCT (fun x h=>aBv h hl) h⟩
instance (H H':Fh) (f g:Int→Nat) (l:List (Int×cZ)):gZ H H' (aS H f g l) (aS H' f g l):=⟨fun hl h=>aCT (fun x h=>aCK h hl) h⟩
def dX {α:Type} (f:Int→Nat) (l:List (Int×α)) (k:Int):Value:=match at? l k with|some _=>ptr (f k)|none=> .pointer none
theorem lI {f:Int→Nat} {k:Int}:∀{l:List (Int×α)},(jZ (kvs f (l.map (·.1))) k).getD (.pointer none)=dX f l k
 | []=>rfl
 |p::l=>by
  have ih:=lI (f:=f) (k:=k) (l:=l);unfold dX at ih⊢;simp only [List.map_cons,kvs,jZ,at?]
  by_cases h:p.1=k
  ·rw [show ksI k p.1=true from jY.2 h.symm,if_pos h,h];rfl
  ·rw [show ksI k p.1=false from by cases h9:ksI k p.1 with|false=>rfl|true=>exact absurd (jY.1 h9).symm h,if_neg h];exact ih
instance mpServ:MpI prog 82 3 46:=⟨by kernel_rfl,by kernel_rfl⟩
instance mpCli:MpI prog 83 3 61:=⟨by kernel_rfl,by kernel_rfl⟩
instance mpDiskI:MpI prog 84 3 91:=⟨by kernel_rfl,by kernel_rfl⟩
theorem tW (W:World):(zeroValue 46).run prog W= .ok (.pointer none) W:=by kernel_rfl
theorem aIN (W:World):(zeroValue 61).run prog W= .ok (.pointer none) W:=by kernel_rfl
theorem tX (W:World):(zeroValue 91).run prog W= .ok (.pointer none) W:=by kernel_rfl
variable {p:Nat} {k:WPt} {w:bH}
abbrev bC (k:WPt) (w:bH):Res:=aO k.ms (kvs k.ps (w.servers.map (·.1)))
abbrev aX (k:WPt) (w:bH):Res:=aO k.mc (kvs k.pc (w.clients.map (·.1)))
abbrev aZ (k:WPt) (w:bH):Res:=aO k.md (kvs k.qs (w.sd.map (·.1)))
abbrev aY (k:WPt) (w:bH):Res:=aO k.me (kvs k.qc (w.cd.map (·.1)))
def bJ (H:Fh) (p:Nat) (w:bH):Res:=Ex fun k:WPt=>aR p k::bC k w::aX k w::aZ k w::aY k w::aL H k.pn w.n::aP H k.ps k.qs w.servers::aC nameS k.qs w.sd::aS H k.pc k.qc w.clients::aC nameQ k.qc w.cd:: []
theorem iV (h:Has 0 w0 W (bJ H p w::R)):∃k,Has 0 w0 W (aR p k::bC k w::aX k w::aZ k w::aY k w::aL H k.pn w.n::aP H k.ps k.qs w.servers::aC nameS k.qs w.sd::aS H k.pc k.qc w.clients::aC nameQ k.qc w.cd::R):=Has.open h
theorem eP (h:Has 0 w0 W (aR p k::bC k w::aX k w::aZ k w::aY k w::aL H k.pn w.n::aP H k.ps k.qs w.servers::aC nameS k.qs w.sd::aS H k.pc k.qc w.clients::aC nameQ k.qc w.cd::R)):Has 0 w0 W (bJ H p w::R):=Has.shut k h
theorem aIO (h:Has 0 w0 W (bJ H p w::R)) (hl:H.le H'):Has 0 w0 W (bJ H' p w::R):=by
 obtain ⟨k,h⟩:=iV h;exact eP (h.lz hl)
instance (H H':Fh) (p:Nat) (w:bH):gZ H H' (bJ H p w) (bJ H' p w):=⟨fun hl h=>aIO h hl⟩
theorem nC (id:Int) (hw:Has 0 w0 W (aR p k::bC k w::R)):
  Calls prog 19 ⟨[ptr p,.int .i64 id]⟩ W fun e W'=>e= .returned (dX k.ps w.servers id)∧Has 0 w0 W' (aR p k::bC k w::R):=by
 refine en Tryz.func19 Tryz.ntmps19 fun a hs=>?_;refine sv hs hw fun a hs=>?_;refine lH hs (hw:=hw) (hz:=tW) (c:=fun a hs=>?_);rw [lI] at hs;refine sv hs hw fun a hs=>?_;exact rt1 hs rfl rfl ⟨rfl,hw⟩
theorem nD (id:Int) (hw:Has 0 w0 W (aR p k::aX k w::R)):
  Calls prog 29 ⟨[ptr p,.int .i64 id]⟩ W fun e W'=>e= .returned (dX k.pc w.clients id)∧Has 0 w0 W' (aR p k::aX k w::R):=by
 refine en Tryz.func29 Tryz.ntmps29 fun a hs=>?_;refine sv hs hw fun a hs=>?_;refine lH hs (hw:=hw) (hz:=aIN) (c:=fun a hs=>?_);rw [lI] at hs;refine sv hs hw fun a hs=>?_;exact rt1 hs rfl rfl ⟨rfl,hw⟩
theorem l8 (hw:Has 0 w0 W (aR p k::R)):
  Calls prog 13 ⟨[ptr p]⟩ W fun e W'=>e= .returned (ptr k.pn)∧Has 0 w0 W' (aR p k::R):=by
 refine en Tryz.func13 Tryz.ntmps13 fun a hs=>?_;refine sv hs hw fun a hs=>?_;exact rt1 hs rfl rfl ⟨rfl,hw⟩
end
section
variable {w0 W:World} {R L:List Res} {H H':Fh} {p q:Nat} {k:WPt} {w:bH} {u:cZ}
def tY (u:cZ):cT:=(iD u).headD ⟨0,0,[]⟩
theorem aIP (hw:Has 0 w0 W (cQ H p q u::Fz H::R)):
  Calls prog 101 ⟨[ptr p]⟩ W fun e W'=>∃(v:Value) (H':Fh),e= .returned (.tuple ⟨[.agg ⟨aK (tY u) v⟩,.bool (!(iD u).isEmpty)]⟩)∧H.le H'∧cG H' v (tY u).l∧Has 0 w0 W' (cQ H' p q u::Fz H'::R):=by
 refine en Tryz.func101 Tryz.ntmps101 fun a hs=>?_;refine sc hs ?_;refine sn hs hw fun b2 a W hs hw=>?_;refine sv hs hw fun a hs=>?_;have hw:Has 0 w0 W (cQ H p q u::Fz H::aA b2 (aK ⟨0,0,[]⟩ (.slice none 0 0)) 66::R):=hw.pm;refine aH hs (hc:=aCL hw) (k:=?_);rintro e' W ⟨lv,H3,rfl,hle3,⟨ys,hr,hch⟩,hw⟩;refine ⟨_,rfl,fun a hs=>?_⟩;obtain ⟨lad,lcap,rfl⟩:=hr.slice;refine sv hs hw fun a hs=>?_;unfold tY;obtain ⟨l,hl⟩:∃l,l=iD u:=⟨_,rfl⟩
 rw [←hl] at hs hr hch⊢;cases l with
 |nil=>
  rw [show (((([]:List cT).length:Nat):Int) == 0)=true from rfl] at hs;refine sx hs hw fun a W hs hw=>?_;refine rc2 hs rfl rfl hw inn rfl rfl ⟨_,H3,rfl,hle3,j6 H3,hw.sl⟩
 |cons b l=>
  rw [show ((((b::l).length:Nat):Int) == 0)=false from by simp;omega] at hs;refine sv hs hw fun a hs=>?_;refine gT hs (r:=hw.rdH (In.tl In.hd) hr) (hk:=BatIn.len) (ch:=hch) (i:=0) (ho:=rfl) (hlen:=rfl) (c:=fun a g off c hmc hcl9 hpc hlt hs=>?_);obtain ⟨sv9,rfl,hsv⟩:=hmc;obtain ⟨oad,ocap,rfl⟩:=hsv.slice;refine eC hs (z:=tQ) (cs:=aK b _) (hc:=hpc) (hl:=by rfl) (c:=fun a hs=>?_);refine sx hs hw fun a W hs hw=>?_;exact rc2 hs rfl rfl hw inn rfl rfl ⟨_,H3,rfl,hle3,hsv,hw.sl⟩
theorem aIQ (n l:List bF) (m:bF):iE n (l ++ [m])=oD (iE n l) m:=by unfold iE;rw [List.foldl_append];rfl
theorem tZ {n ms:List bF} {lv:Value} (hw:Has 0 w0 W (aR p k::aL H k.pn n::aD H lv ms::Fz H::R)):
  Calls prog 45 ⟨[ptr p,lv]⟩ W fun e W'=>∃H':Fh,e= .returned (.tuple ⟨[]⟩)∧H.le H'∧Has 0 w0 W' (aR p k::aL H' k.pn (iE n ms)::Fz H'::R):=by
 obtain ⟨lad,lcap,xs,rfl,hch,hw⟩:=qJ (hw.sl:Has 0 w0 W (aD H lv ms::aR p k::aL H k.pn n::Fz H::R));obtain ⟨lv,hlv⟩:∃lv,lv=Value.slice lad ms.length lcap:=⟨_,rfl⟩
 rw [←hlv] at hw;have hlen:=(hw.rd_own In.hd).len;refine en Tryz.func45 Tryz.ntmps45 fun a hs=>?_;refine sv hs hw fun a hs=>?_;rw [←hlv] at hs;refine bX (σ:=Nat×Fh) (fun z=>[(0,ptr p),(6,lv),(7,.int .i64 (ms.length:Int)),(8,.int .i64 (z.1:Int))]) (fun z=>Sx.Own 38 13 lv ms.length xs::aR p k::aL z.2 k.pn (iE n (ms.take z.1))::Fz z.2::R) (fun z=>z.1≤ms.length∧H.le z.2) (fun z=>ms.length - z.1) (0,H) ⟨Nat.zero_le _,Fh.le.refl H⟩ hs ⟨rfl,rfl,rfl,rfl,trivial⟩ hw ?_;clear hs hw;rintro ⟨i,H2⟩ a W ⟨hi,hle⟩ hs hw;simp only at hi hle hs hw;refine sv hs hw fun a hs=>?_;refine cI hs (kt:=fun hcc=>?_) (kf:=fun hcc=>?_)
 ·have hi':i<ms.length:=by simpa using hcc
  obtain ⟨o,ho9,hd⟩:=dP hi';refine sc hs ?_;refine gT hs (r:=hw.rd_own In.hd) (hk:=MsgIn.len) (ch:=hch) (ho:=ho9) (hlen:=rfl) (c:=fun a g off c hmc hcl9 hpc hlt hs=>?_);obtain ⟨ov,rfl,hov,hoc⟩:=hmc;have hov2:=hov.le hle;obtain ⟨oad,ocap,rfl⟩:=hov2.slice;obtain ⟨ov,hov9⟩:∃ov,ov=Value.slice oad o.es.length ocap:=⟨_,rfl⟩
  refine eC hs (z:=aF cM (.slice none 0 0)) (cs:=aF o _) (hc:=hpc) (hl:=by rfl) (c:=fun a hs=>?_);refine sn hs hw fun b5 a W hs hw=>?_;refine sx hs hw fun a W hs hw=>?_;refine bB [5] [.f 0 0,.f 0 0,.f 0 0,.f 0 0,.f 0 0,.m 0] [.c0 _,.c0 _,.c0 _,.c0 _,.c0 _,.c1 (fun x=>x.v)] (aA b5 (aF o (.slice oad o.es.length ocap)) 38::Sx.Own 38 13 lv ms.length xs::aR p k::aL H2 k.pn (iE n (ms.take i))::Fz H2::R) (fun x=>FzF x.H (Fh.le H2 x.H)::aA b5 (aF o (.slice oad o.es.length ocap)) 38::Sx.Own 38 13 lv ms.length xs::aR p k::aL x.H k.pn (iE n (ms.take (i+1)))::R) (fun x y=>[]) (fun x y z=>[]) (fun x y z t=>[]) hs hw ?kk ⟨drs,drs,drs,drs,drs,?m0,trivial⟩
  case m0=>
   intro x y z t LD a W hs hw;have hw:Has 0 w0 W (aL H2 k.pn (iE n (ms.take i))::Fz H2::aA b5 (aF o (.slice oad o.es.length ocap)) 38::Sx.Own 38 13 lv ms.length xs::aR p k::R):=hw.pm;refine aH hs (hc:=aID o _ hov2 hoc hw) (k:=?_);rintro e' W' ⟨b,H3,rfl,hle3,hw⟩;refine ⟨_,rfl,fun a hs=>?_⟩;rw [←aIQ,←fQ ho9] at hw;have hw:Has 0 w0 W' (Fz H3::aA b5 (aF o (.slice oad o.es.length ocap)) 38::Sx.Own 38 13 lv ms.length xs::aR p k::aL H3 k.pn (iE n (ms.take (i+1)))::R):=hw.pm;exact ⟨{v:= .bool b,H:=H3},hs,hw.fzf hle3⟩
  case kk=>
  intro x a W hs hw;obtain ⟨hle3,hw⟩:=hw.unfzf;refine sv hs hw fun a hs=>?_;refine bS (i+1,x.H) hs (hw.sl) ⟨hi',hle.trans hle3⟩ (by show ms.length - (i+1)<ms.length - i;omega) ⟨rfl,rfl,rfl,bU (i1 (by omega)),trivial⟩
 ·have h9:ms.take i=ms:=List.take_of_length_le (by simp at hcc;omega);rw [h9] at hw;refine sc hs ?_
  first
   |exact rt0 hs rfl ⟨H2,rfl,hle,hw.d1⟩
   |exact cO hs rfl ⟨H2,rfl,hle,hw.d1⟩
end
section
variable {w0 W:World} {R L:List Res} {H H':Fh} {p q:Nat} {k:WPt} {w w':bH} {u:cZ} {id err:Int} {s:cW} {d:bM}
theorem kM {α:Type} {l:List (Int×α)} {k:Int} {v:α} (h:at? l k=some v):∃r:List (Int×α),(∀{f:Int×α→Res} {W R},Has 0 w0 W (fH (l.map f)::R)→Has 0 w0 W (f (k,v)::fH (r.map f)::R))∧∀{f:Int×α→Res} {W R v'},Has 0 w0 W (f (k,v')::fH (r.map f)::R)→Has 0 w0 W (fH ((cH l k v').map f)::R):=by
 obtain ⟨l1,l2,e1,e2⟩:=oH h;refine ⟨l1 ++ l2,fun {f W R} hw=>?_,fun {f W R v'} hw=>?_⟩
 ·have hw:=l7 hw;rw [e1,List.map_append,List.map_cons,List.append_assoc,List.cons_append] at hw;have hw:Has 0 w0 W ((l1 ++ l2).map f ++ f (k,v)::R):=by
   rw [List.map_append,List.append_assoc];refine hw.perm ?_;refine List.Perm.append_left _ ?_;exact List.perm_middle.symm
  exact (jH hw).swap2
 ·have hw:=l7 hw.swap2;refine jH ?_;rw [e2,List.map_append,List.map_cons,List.append_assoc,List.cons_append];rw [List.map_append,List.append_assoc] at hw;refine hw.perm ?_;refine List.Perm.append_left _ ?_;exact List.perm_middle
theorem t6 (hs:at? w.servers id=some s) (hd:at? w.sd id=some d):∃rs rd,(∀{H:Fh} {n:List bF} {W R},Has 0 w0 W (aR p k::bC k w::aX k w::aZ k w::aY k w::aL (H) k.pn (n)::aP (H) k.ps k.qs w.servers::aC nameS k.qs w.sd::aS (H) k.pc k.qc w.clients::aC nameQ k.qc w.cd::R)→Has 0 w0 W (cE (H) (k.ps id) (k.qs id) (s)::aB nameS (k.qs id) (d)::aR p k::bC k w::aX k w::aZ k w::aY k w::aL (H) k.pn (n)::aP (H) k.ps k.qs rs::aC nameS k.qs rd::aS (H) k.pc k.qc w.clients::aC nameQ k.qc w.cd::R))∧∀{H:Fh} {n:List bF} {s':cW} {d':bM} {W R},Has 0 w0 W (cE (H) (k.ps id) (k.qs id) (s')::aB nameS (k.qs id) (d')::aR p k::bC k w::aX k w::aZ k w::aY k w::aL (H) k.pn (n)::aP (H) k.ps k.qs rs::aC nameS k.qs rd::aS (H) k.pc k.qc w.clients::aC nameQ k.qc w.cd::R)→Has 0 w0 W (bJ H p {w with servers:=cH w.servers id s',sd:=cH w.sd id d',n:=n}::R):=by
 obtain ⟨rs,a1,a2⟩:=kM (w0:=w0) hs;obtain ⟨rd,b1,b2⟩:=kM (w0:=w0) hd;refine ⟨rs,rd,fun {H n W R} hw=>?_,fun {H n s' d' W R} hw=>?_⟩
 ·have hw:Has 0 w0 W (aP H k.ps k.qs w.servers::aR p k::bC k w::aX k w::aZ k w::aY k w::aL H k.pn n::aC nameS k.qs w.sd::aS H k.pc k.qc w.clients::aC nameQ k.qc w.cd::R):=hw.pm;have hw:Has 0 w0 W (cE H (k.ps id) (k.qs id) s::aP H k.ps k.qs rs::aR p k::bC k w::aX k w::aZ k w::aY k w::aL H k.pn n::aC nameS k.qs w.sd::aS H k.pc k.qc w.clients::aC nameQ k.qc w.cd::R):=a1 hw;have hw:Has 0 w0 W (aC nameS k.qs w.sd::cE H (k.ps id) (k.qs id) s::aP H k.ps k.qs rs::aR p k::bC k w::aX k w::aZ k w::aY k w::aL H k.pn n::aS H k.pc k.qc w.clients::aC nameQ k.qc w.cd::R):=hw.pm;have hw:Has 0 w0 W (aB nameS (k.qs id) d::aC nameS k.qs rd::cE H (k.ps id) (k.qs id) s::aP H k.ps k.qs rs::aR p k::bC k w::aX k w::aZ k w::aY k w::aL H k.pn n::aS H k.pc k.qc w.clients::aC nameQ k.qc w.cd::R):=b1 hw;exact hw.pm
 ·have hw:Has 0 w0 W (cE H (k.ps id) (k.qs id) s'::aP H k.ps k.qs rs::aB nameS (k.qs id) d'::aC nameS k.qs rd::aR p k::bC k w::aX k w::aZ k w::aY k w::aL H k.pn n::aS H k.pc k.qc w.clients::aC nameQ k.qc w.cd::R):=hw.pm;have hw:Has 0 w0 W (aP H k.ps k.qs (cH w.servers id s')::aB nameS (k.qs id) d'::aC nameS k.qs rd::aR p k::bC k w::aX k w::aZ k w::aY k w::aL H k.pn n::aS H k.pc k.qc w.clients::aC nameQ k.qc w.cd::R):=a2 hw;have hw:Has 0 w0 W (aB nameS (k.qs id) d'::aC nameS k.qs rd::aP H k.ps k.qs (cH w.servers id s')::aR p k::bC k w::aX k w::aZ k w::aY k w::aL H k.pn n::aS H k.pc k.qc w.clients::aC nameQ k.qc w.cd::R):=hw.pm;have hw:Has 0 w0 W (aC nameS k.qs (cH w.sd id d')::aP H k.ps k.qs (cH w.servers id s')::aR p k::bC k w::aX k w::aZ k w::aY k w::aL H k.pn n::aS H k.pc k.qc w.clients::aC nameQ k.qc w.cd::R):=b2 hw;have hw:Has 0 w0 W (aR p k::bC k w::aX k w::aZ k w::aY k w::aL H k.pn n::aP H k.ps k.qs (cH w.servers id s')::aC nameS k.qs (cH w.sd id d')::aS H k.pc k.qc w.clients::aC nameQ k.qc w.cd::R):=hw.pm;refine eP (k:=k) ?_;show Has 0 w0 W (aR p k::aO k.ms (kvs k.ps ((cH w.servers id s').map (·.1)))::aX k w::aO k.md (kvs k.qs ((cH w.sd id d').map (·.1)))::_);rw [oI hs,oI hd];exact hw
theorem xY (h:qU w id=some (w',err)) (hH:(fr w0).le H) (hT:Tabs w0) (hw:Has 0 w0 W (bJ H p w::Fz H::R)):
  Calls prog 12 ⟨[ptr p,.int .i64 id]⟩ W fun e W'=>∃H':Fh,e= .returned (.int .i64 err)∧H.le H'∧Has 0 w0 W' (bJ H' p w'::Fz H'::R):=by
 obtain ⟨k,hw⟩:=iV hw;refine en Tryz.func12 Tryz.ntmps12 fun a hs=>?_;refine sv hs hw fun a hs=>?_;refine cl hs (nC id hw) fun a W hs hw=>?_;unfold qU at h;unfold dX at hs;cases c1:at? w.servers id with
 |none=>
  rw [c1] at hs h;injection h with h;injection h with e1 e2;subst e1 e2;refine sv hs hw fun a hs=>?_;exact rt1 hs rfl rfl ⟨H,rfl,Fh.le.refl H,eP hw⟩
 |some s=>
 rw [c1] at hs h;cases c2:at? w.sd id with
 |none=>rw [c2] at h;cases h
 |some d=>
 rw [c2] at h;obtain ⟨⟨d2,s2,ms⟩,h1,h2⟩:=Option.map_eq_some_iff.1 h;injection h2 with e1 e2;subst e2;obtain ⟨rs,rd,tk,gv⟩:=t6 (w0:=w0) (p:=p) (k:=k) (w:=w) c1 c2;refine sv hs hw fun a hs=>?_;have hw:=tk hw;refine cl hs (aH2 hw) fun a W hs hw=>?_;refine sx hs hw fun a W hs hw=>?_;have hw:Has 0 w0 W (cE H (k.ps id) (k.qs id) s::aB nameS (k.qs id) d::Fz H::aR p k::bC k w::aX k w::aZ k w::aY k w::aL (H) k.pn (w.n)::aP (H) k.ps k.qs rs::aC nameS k.qs rd::aS (H) k.pc k.qc w.clients::aC nameQ k.qc w.cd::R):=hw.pm;refine aH hs (hc:=aH1 h1 hH hT hw) (k:=?_);rintro e' W ⟨v',H3,rfl,hle3,hw⟩;refine ⟨_,rfl,fun a hs=>?_⟩;have hw:=hw.lz hle3;have hw:Has 0 w0 W (aR p k::aL H3 k.pn w.n::aD H3 v' ms::Fz H3::cE H3 (k.ps id) (k.qs id) s2::aB nameS (k.qs id) d2::bC k w::aX k w::aZ k w::aY k w::aP H3 k.ps k.qs rs::aC nameS k.qs rd::aS H3 k.pc k.qc w.clients::aC nameQ k.qc w.cd::R):=hw.pm;refine aH hs (hc:=tZ hw) (k:=?_);rintro e' W ⟨H4,rfl,hle4,hw⟩;refine ⟨_,rfl,fun a hs=>?_⟩;have hw:=hw.lz hle4;refine sv hs hw fun a hs=>?_;refine rt1 hs rfl rfl ⟨H4,rfl,hle3.trans hle4,?_⟩;rw [←e1];have hw:Has 0 w0 W (cE (H4) (k.ps id) (k.qs id) (s2)::aB nameS (k.qs id) (d2)::aR p k::bC k w::aX k w::aZ k w::aY k w::aL (H4) k.pn ((iE w.n ms))::aP (H4) k.ps k.qs rs::aC nameS k.qs rd::aS (H4) k.pc k.qc w.clients::aC nameQ k.qc w.cd::Fz H4::R):=hw.pm;exact gv hw
theorem aIR {m:bF} {n:List bF} (hn:w.n=m::n) (h:xQ w=some w') (hH:(fr w0).le H) (hT:Tabs w0) (hw:Has 0 w0 W (bJ H p w::Fz H::R)):
  Calls prog 16 ⟨[ptr p,.int .i64 0,.bool false]⟩ W fun e W'=>∃H':Fh,e= .returned (.int .i64 0)∧H.le H'∧Has 0 w0 W' (bJ H' p w'::Fz H'::R):=by
 obtain ⟨k,hw⟩:=iV hw;refine en Tryz.func16 Tryz.ntmps16 fun a hs=>?_;refine sv hs hw fun a hs=>?_;rw [hn] at hw;have hw:Has 0 w0 W (aL H k.pn (m::n)::Fz H::aR p k::bC k w::aX k w::aZ k w::aY k w::aP H k.ps k.qs w.servers::aC nameS k.qs w.sd::aS H k.pc k.qc w.clients::aC nameQ k.qc w.cd::R):=hw.pm;refine aH hs (hc:=aIC hw) (k:=?_);rintro e' W ⟨mv,H3,rfl,hle3,hmv,hmc,hw⟩;refine ⟨_,rfl,fun a hs=>?_⟩;obtain ⟨mad,mcap,rfl⟩:=hmv.slice;have hw:=hw.lz hle3;refine sv hs hw fun a hs=>?_;refine sn hs hw fun b7 a W hs hw=>?_;refine sx hs hw fun a W hs hw=>?_;have hw:Has 0 w0 W (aL H3 k.pn (m::n)::aA b7 (aF m (.slice mad m.es.length mcap)) 38::Fz H3::aR p k::bC k w::aX k w::aZ k w::aY k w::aP H3 k.ps k.qs w.servers::aC nameS k.qs w.sd::aS H3 k.pc k.qc w.clients::aC nameQ k.qc w.cd::R):=hw.pm;refine cl hs (aIF hw) fun a W hs hw=>?_;have hw:Has 0 w0 W (aA b7 (aF m (.slice mad m.es.length mcap)) 38::aR p k::bC k w::aX k w::aZ k w::aY k w::aL H3 k.pn (n)::aP H3 k.ps k.qs w.servers::aC nameS k.qs w.sd::aS H3 k.pc k.qc w.clients::aC nameQ k.qc w.cd::Fz H3::R):=hw.pm;refine zG hs ?_;refine bB [] [.f 0 0,.f 0 0,.f 0 0,.f 0 0,.f 0 0,.f 0 0,.f 0 0,.f 0 0] [.c0 _,.c0 _,.c0 _,.c0 _,.c0 _,.c0 _,.c0 (dX k.ps w.servers m.to_),.c0 (dX k.ps w.servers m.to_)] (aA b7 (aF m (.slice mad m.es.length mcap)) 38::aR p k::bC k w::aX k w::aZ k w::aY k w::aL H3 k.pn (n)::aP H3 k.ps k.qs w.servers::aC nameS k.qs w.sd::aS H3 k.pc k.qc w.clients::aC nameQ k.qc w.cd::Fz H3::R) (fun x=>[]) (fun x y=>[]) (fun x y z=>[]) (fun x y z t=>[]) hs hw ?kk ⟨drs,drs,drs,drs,drs,drs,?f6,?f7,trivial⟩
 case f6=>
  refine ⟨?_,trivial,trivial,trivial,trivial⟩;intro x y z t LD a W hs hw;refine lH hs (hw:=hw) (hz:=tW) (c:=fun a hs=>?_);rw [lI] at hs;exact ⟨hs,hw⟩
 case f7=>
  refine ⟨?_,trivial,trivial,trivial,trivial⟩;intro x y z t LD a W hs hw;refine sv hs hw fun a hs=>?_;exact ⟨hs,hw⟩
 case kk=>
 intro a W hs hw;unfold xQ at h;rw [hn] at h;unfold dX at hs;cases c1:at? w.servers m.to_ with
 |none=>
  rw [c1] at hs;simp only [c1] at h;injection h with h;subst h;refine sv hs hw fun a hs=>?_;refine rt1 hs rfl rfl ⟨H3,rfl,hle3,?_⟩;have hw:Has 0 w0 W (aR p k::bC k w::aX k w::aZ k w::aY k w::aL H3 k.pn (n)::aP H3 k.ps k.qs w.servers::aC nameS k.qs w.sd::aS H3 k.pc k.qc w.clients::aC nameQ k.qc w.cd::Fz H3::R):=hw.d1;exact eP (w:={w with n:=n}) hw
 |some s=>
 rw [c1] at hs;cases c2:at? w.sd m.to_ with
 |none=>simp only [c1,c2] at h;cases h
 |some d=>
 simp only [c1,c2] at h;obtain ⟨⟨d2,s2,ms⟩,h1,h2⟩:=Option.map_eq_some_iff.1 h;subst h2;obtain ⟨id,hid⟩:∃id,id=m.to_:=⟨_,rfl⟩
 rw [←hid] at c1 c2 hs⊢;obtain ⟨rs,rd,tk,gv⟩:=t6 (w0:=w0) (p:=p) (k:=k) (w:=w) c1 c2;refine sx hs hw fun a W hs hw=>?_;have hw:Has 0 w0 W (aR p k::bC k w::aX k w::aZ k w::aY k w::aL H3 k.pn (n)::aP H3 k.ps k.qs w.servers::aC nameS k.qs w.sd::aS H3 k.pc k.qc w.clients::aC nameQ k.qc w.cd::aA b7 (aF m (.slice mad m.es.length mcap)) 38::Fz H3::R):=hw.pm;have hw:=tk hw;have hw:Has 0 w0 W (cE H3 (k.ps id) (k.qs id) s::aB nameS (k.qs id) d::Fz H3::aA b7 (aF m (.slice mad m.es.length mcap)) 38::aR p k::bC k w::aX k w::aZ k w::aY k w::aL (H3) k.pn (n)::aP (H3) k.ps k.qs rs::aC nameS k.qs rd::aS (H3) k.pc k.qc w.clients::aC nameQ k.qc w.cd::R):=hw.pm;refine aH hs (hc:=aBy m _ hmv hmc h1 (hH.trans hle3) hT hw) (k:=?_);rintro e' W ⟨v',H4,rfl,hle4,hw⟩;refine ⟨_,rfl,fun a hs=>?_⟩;have hw:=hw.lz hle4;have hw:Has 0 w0 W (aR p k::aL H4 k.pn n::aD H4 v' ms::Fz H4::aA b7 (aF m (.slice mad m.es.length mcap)) 38::cE H4 (k.ps id) (k.qs id) s2::aB nameS (k.qs id) d2::bC k w::aX k w::aZ k w::aY k w::aP H4 k.ps k.qs rs::aC nameS k.qs rd::aS H4 k.pc k.qc w.clients::aC nameQ k.qc w.cd::R):=hw.pm;refine aH hs (hc:=tZ hw) (k:=?_);rintro e' W ⟨H5,rfl,hle5,hw⟩;refine ⟨_,rfl,fun a hs=>?_⟩;have hw:=hw.lz hle5;refine sv hs hw fun a hs=>?_;refine rt1 hs rfl rfl ⟨H5,rfl,(hle3.trans hle4).trans hle5,?_⟩;have hw:Has 0 w0 W (cE (H5) (k.ps id) (k.qs id) (s2)::aB nameS (k.qs id) (d2)::aR p k::bC k w::aX k w::aZ k w::aY k w::aL (H5) k.pn ((iE n ms))::aP (H5) k.ps k.qs rs::aC nameS k.qs rd::aS (H5) k.pc k.qc w.clients::aC nameQ k.qc w.cd::Fz H5::R):=hw.sl;exact gv hw
end
section
variable {w0 W:World} {R L:List Res} {H H':Fh} {p q:Nat} {k:WPt} {w w':bH} {u u':cZ} {c id err:Int} {s:cW} {d d':bM}
theorem i2 {i:Nat} (h:i≤1000):IntKind.i64.wrap ((i:Int)+1+1)=((i+1:Nat):Int)+1:=by rw [IntWalk.i64_in _ (by omega)];omega
theorem oO {α:Type}:∀{l:List (Int×α)} {k:Int} {v:α},at? l k=some v→cH l k v=l
 | [],_,_,h=>by cases h
 |p::l,k,v,h=>by
  unfold at? at h;unfold cH;split at h
  ·rename_i h1;injection h with h;rw [if_pos h1,←h1,←h]
  ·rename_i h1;rw [if_neg h1,oO h]
theorem yA (hs:at? w.clients c=some u):∃rc:List (Int×cZ),(∀{H:Fh} {W R},Has 0 w0 W (aR p k::bC k w::aX k w::aZ k w::aY k w::aL (H) k.pn w.n::aP (H) k.ps k.qs w.servers::aC nameS k.qs w.sd::aS (H) k.pc k.qc w.clients::aC nameQ k.qc w.cd::R)→Has 0 w0 W (cQ H (k.pc c) (k.qc c) u::aR p k::bC k w::aX k w::aZ k w::aY k w::aL (H) k.pn w.n::aP (H) k.ps k.qs w.servers::aC nameS k.qs w.sd::aS (H) k.pc k.qc rc::aC nameQ k.qc w.cd::R))∧∀{H:Fh} {W R},Has 0 w0 W (cQ H (k.pc c) (k.qc c) u::aR p k::bC k w::aX k w::aZ k w::aY k w::aL (H) k.pn w.n::aP (H) k.ps k.qs w.servers::aC nameS k.qs w.sd::aS (H) k.pc k.qc rc::aC nameQ k.qc w.cd::R)→Has 0 w0 W (aR p k::bC k w::aX k w::aZ k w::aY k w::aL (H) k.pn w.n::aP (H) k.ps k.qs w.servers::aC nameS k.qs w.sd::aS (H) k.pc k.qc w.clients::aC nameQ k.qc w.cd::R):=by
 obtain ⟨rc,a1,a2⟩:=kM (w0:=w0) hs;refine ⟨rc,fun {H W R} hw=>?_,fun {H W R} hw=>?_⟩
 ·have hw:Has 0 w0 W (aS H k.pc k.qc w.clients::aR p k::bC k w::aX k w::aZ k w::aY k w::aL (H) k.pn w.n::aP (H) k.ps k.qs w.servers::aC nameS k.qs w.sd::aC nameQ k.qc w.cd::R):=hw.pm;have hw:Has 0 w0 W (cQ H (k.pc c) (k.qc c) u::aS H k.pc k.qc rc::aR p k::bC k w::aX k w::aZ k w::aY k w::aL (H) k.pn w.n::aP (H) k.ps k.qs w.servers::aC nameS k.qs w.sd::aC nameQ k.qc w.cd::R):=a1 hw;exact hw.pm
 ·have hw:Has 0 w0 W (cQ H (k.pc c) (k.qc c) u::aS H k.pc k.qc rc::aR p k::bC k w::aX k w::aZ k w::aY k w::aL (H) k.pn w.n::aP (H) k.ps k.qs w.servers::aC nameS k.qs w.sd::aC nameQ k.qc w.cd::R):=hw.pm;have hw:Has 0 w0 W (aS H k.pc k.qc (cH w.clients c u)::aR p k::bC k w::aX k w::aZ k w::aY k w::aL (H) k.pn w.n::aP (H) k.ps k.qs w.servers::aC nameS k.qs w.sd::aC nameQ k.qc w.cd::R):=a2 hw;rw [oO hs] at hw;exact hw.pm
theorem aC6 (hs:at? w.clients c=some u) (hd:at? w.cd c=some d):∃(rc:List (Int×cZ)) (re:List (Int×bM)),(∀{H:Fh} {W R},Has 0 w0 W (aR p k::bC k w::aX k w::aZ k w::aY k w::aL (H) k.pn w.n::aP (H) k.ps k.qs w.servers::aC nameS k.qs w.sd::aS (H) k.pc k.qc w.clients::aC nameQ k.qc w.cd::R)→Has 0 w0 W (cQ H (k.pc c) (k.qc c) u::aB nameQ (k.qc c) d::aR p k::bC k w::aX k w::aZ k w::aY k w::aL (H) k.pn w.n::aP (H) k.ps k.qs w.servers::aC nameS k.qs w.sd::aS (H) k.pc k.qc rc::aC nameQ k.qc re::R))∧∀{H:Fh} {u':cZ} {d':bM} {W R},Has 0 w0 W (cQ H (k.pc c) (k.qc c) u'::aB nameQ (k.qc c) d'::aR p k::bC k w::aX k w::aZ k w::aY k w::aL (H) k.pn w.n::aP (H) k.ps k.qs w.servers::aC nameS k.qs w.sd::aS (H) k.pc k.qc rc::aC nameQ k.qc re::R)→Has 0 w0 W (aR p k::bC k ({w with clients:=cH w.clients c u',cd:=cH w.cd c d'}:bH)::aX k ({w with clients:=cH w.clients c u',cd:=cH w.cd c d'}:bH)::aZ k ({w with clients:=cH w.clients c u',cd:=cH w.cd c d'}:bH)::aY k ({w with clients:=cH w.clients c u',cd:=cH w.cd c d'}:bH)::aL H k.pn w.n::aP H k.ps k.qs w.servers::aC nameS k.qs w.sd::aS H k.pc k.qc (cH w.clients c u')::aC nameQ k.qc (cH w.cd c d')::R):=by
 obtain ⟨rc,a1,a2⟩:=kM (w0:=w0) hs;obtain ⟨re,b1,b2⟩:=kM (w0:=w0) hd;refine ⟨rc,re,fun {H W R} hw=>?_,fun {H u' d' W R} hw=>?_⟩
 ·have hw:Has 0 w0 W (aS H k.pc k.qc w.clients::aR p k::bC k w::aX k w::aZ k w::aY k w::aL (H) k.pn w.n::aP (H) k.ps k.qs w.servers::aC nameS k.qs w.sd::aC nameQ k.qc w.cd::R):=hw.pm;have hw:Has 0 w0 W (cQ H (k.pc c) (k.qc c) u::aS H k.pc k.qc rc::aR p k::bC k w::aX k w::aZ k w::aY k w::aL (H) k.pn w.n::aP (H) k.ps k.qs w.servers::aC nameS k.qs w.sd::aC nameQ k.qc w.cd::R):=a1 hw;have hw:Has 0 w0 W (aC nameQ k.qc w.cd::cQ H (k.pc c) (k.qc c) u::aS H k.pc k.qc rc::aR p k::bC k w::aX k w::aZ k w::aY k w::aL (H) k.pn w.n::aP (H) k.ps k.qs w.servers::aC nameS k.qs w.sd::R):=hw.pm;have hw:Has 0 w0 W (aB nameQ (k.qc c) d::aC nameQ k.qc re::cQ H (k.pc c) (k.qc c) u::aS H k.pc k.qc rc::aR p k::bC k w::aX k w::aZ k w::aY k w::aL (H) k.pn w.n::aP (H) k.ps k.qs w.servers::aC nameS k.qs w.sd::R):=b1 hw;exact hw.pm
 ·have hw:Has 0 w0 W (cQ H (k.pc c) (k.qc c) u'::aS H k.pc k.qc rc::aB nameQ (k.qc c) d'::aC nameQ k.qc re::aR p k::bC k w::aX k w::aZ k w::aY k w::aL (H) k.pn w.n::aP (H) k.ps k.qs w.servers::aC nameS k.qs w.sd::R):=hw.pm;have hw:Has 0 w0 W (aS H k.pc k.qc (cH w.clients c u')::aB nameQ (k.qc c) d'::aC nameQ k.qc re::aR p k::bC k w::aX k w::aZ k w::aY k w::aL (H) k.pn w.n::aP (H) k.ps k.qs w.servers::aC nameS k.qs w.sd::R):=a2 hw;have hw:Has 0 w0 W (aB nameQ (k.qc c) d'::aC nameQ k.qc re::aS H k.pc k.qc (cH w.clients c u')::aR p k::bC k w::aX k w::aZ k w::aY k w::aL (H) k.pn w.n::aP (H) k.ps k.qs w.servers::aC nameS k.qs w.sd::R):=hw.pm;have hw:Has 0 w0 W (aC nameQ k.qc (cH w.cd c d')::aS H k.pc k.qc (cH w.clients c u')::aR p k::bC k w::aX k w::aZ k w::aY k w::aL (H) k.pn w.n::aP (H) k.ps k.qs w.servers::aC nameS k.qs w.sd::R):=b2 hw;have hw:Has 0 w0 W (aR p k::bC k w::aX k w::aZ k w::aY k w::aL (H) k.pn w.n::aP (H) k.ps k.qs w.servers::aC nameS k.qs w.sd::aS H k.pc k.qc (cH w.clients c u')::aC nameQ k.qc (cH w.cd c d')::R):=hw.pm;show Has 0 w0 W (aR p k::bC k w::aO k.mc (kvs k.pc ((cH w.clients c u').map (·.1)))::aZ k w::aO k.me (kvs k.qc ((cH w.cd c d').map (·.1)))::_);rw [oI hs,oI hd];exact hw
theorem aC7 {t:dU} {n:Int} (ht:t.rows.length≤1000∧(∀r∈t.rows,lW r=true)∧∀x∈t.f.told,x.2.b.l.length≤8):(gV t n 10).length≤1000∧∀r∈gV t n 10,jT r:=by
 unfold gV;split
 ·exact ⟨by simp,by simp⟩
 ·refine ⟨by rw [List.length_take,List.length_drop];omega,fun r hr=>(qT (ht.2.1 r (List.mem_of_mem_drop (List.mem_of_mem_take hr)))).1⟩
theorem aIl {sid:Int} (h:oF w c sid=some (w',err)) (hH:(fr w0).le H) (hT:Tabs w0) (hw:Has 0 w0 W (aR p k::bC k w::aX k w::aZ k w::aY k w::aL H k.pn w.n::aP H k.ps k.qs w.servers::aC nameS k.qs w.sd::aS H k.pc k.qc w.clients::aC nameQ k.qc w.cd::Fz H::R)):
  Calls prog 60 ⟨[ptr p,.int .i64 c,.int .i64 sid]⟩ W fun e W'=>∃H':Fh,e= .returned (.int .i64 err)∧H.le H'∧Has 0 w0 W' (aR p k::bC k w'::aX k w'::aZ k w'::aY k w'::aL H' k.pn w'.n::aP H' k.ps k.qs w'.servers::aC nameS k.qs w'.sd::aS H' k.pc k.qc w'.clients::aC nameQ k.qc w'.cd::Fz H'::R):=by
 refine en Tryz.func60 Tryz.ntmps60 fun a hs=>?_;refine sv hs hw fun a hs=>?_;have hw:Has 0 w0 W (aR p k::aX k w::bC k w::aZ k w::aY k w::aL H k.pn w.n::aP H k.ps k.qs w.servers::aC nameS k.qs w.sd::aS H k.pc k.qc w.clients::aC nameQ k.qc w.cd::Fz H::R):=hw.pm;refine cl hs (nD c hw) fun a W hs hw=>?_;refine sv hs hw fun a hs=>?_;have hw:Has 0 w0 W (aR p k::bC k w::aX k w::aZ k w::aY k w::aL H k.pn w.n::aP H k.ps k.qs w.servers::aC nameS k.qs w.sd::aS H k.pc k.qc w.clients::aC nameQ k.qc w.cd::Fz H::R):=hw.pm;refine cl hs (nC sid hw) fun a W hs hw=>?_;unfold oF at h;unfold dX at hs;cases c1:at? w.clients c with
 |none=>
  simp only [c1] at h;rw [c1] at hs;injection h with h;injection h with e1 e2;subst e1 e2;refine sv hs hw fun a hs=>?_;exact rt1 hs rfl rfl ⟨H,rfl,Fh.le.refl H,hw⟩
 |some u=>
 rw [c1] at hs;cases c2:at? w.servers sid with
 |none=>
  simp only [c1,c2] at h;rw [c2] at hs;injection h with h;injection h with e1 e2;subst e1 e2;refine sv hs hw fun a hs=>?_;exact rt1 hs rfl rfl ⟨H,rfl,Fh.le.refl H,hw⟩
 |some s=>
 rw [c2] at hs;cases c3:at? w.cd c with
 |none=>simp only [c1,c2,c3] at h;cases h
 |some d=>
 simp only [c1,c2,c3] at h;obtain ⟨⟨d2,u2,n2,e2⟩,h1,h2⟩:=Option.map_eq_some_iff.1 h;injection h2 with e3 e4;subst e4;obtain ⟨rc,re,tk,gv⟩:=aC6 (w0:=w0) (p:=p) (k:=k) (w:=w) c1 c3;obtain ⟨rs,a1,a2⟩:=kM (w0:=w0) c2;have hw:=tk hw;refine sv hs hw fun a hs=>?_;refine cl hs (tR hw) fun a W hs hw=>?_;have hw:Has 0 w0 W (aP H k.ps k.qs w.servers::Fz H::cQ H (k.pc c) (k.qc c) u::aB nameQ (k.qc c) d::aR p k::bC k w::aX k w::aZ k w::aY k w::aL (H) k.pn w.n::aC nameS k.qs w.sd::aS (H) k.pc k.qc rc::aC nameQ k.qc re::R):=hw.pm;have hw:Has 0 w0 W (cE H (k.ps sid) (k.qs sid) s::aP H k.ps k.qs rs::Fz H::cQ H (k.pc c) (k.qc c) u::aB nameQ (k.qc c) d::aR p k::bC k w::aX k w::aZ k w::aY k w::aL (H) k.pn w.n::aC nameS k.qs w.sd::aS (H) k.pc k.qc rc::aC nameQ k.qc re::R):=a1 hw;have ht:=oC (kI hw).2.1;have hw:Has 0 w0 W (cE H (k.ps sid) (k.qs sid) s::Fz H::aP H k.ps k.qs rs::cQ H (k.pc c) (k.qc c) u::aB nameQ (k.qc c) d::aR p k::bC k w::aX k w::aZ k w::aY k w::aL (H) k.pn w.n::aC nameS k.qs w.sd::aS (H) k.pc k.qc rc::aC nameQ k.qc re::R):=hw.pm;refine aH hs (hc:=aH3 (iU u) hw) (k:=?_);rintro e' W ⟨v',H3,rfl,hle3,hv3,hw⟩;refine ⟨_,rfl,fun a hs=>?_⟩;have hw:=hw.lz hle3;refine sv hs hw fun a hs=>?_;have hw:Has 0 w0 W (cE H3 (k.ps sid) (k.qs sid) s::aP H3 k.ps k.qs rs::cQ H3 (k.pc c) (k.qc c) u::aB nameQ (k.qc c) d::Fz H3::aR p k::bC k w::aX k w::aZ k w::aY k w::aL (H3) k.pn w.n::aC nameS k.qs w.sd::aS (H3) k.pc k.qc rc::aC nameQ k.qc re::R):=hw.pm;have hw:Has 0 w0 W (aP H3 k.ps k.qs (cH w.servers sid s)::cQ H3 (k.pc c) (k.qc c) u::aB nameQ (k.qc c) d::Fz H3::aR p k::bC k w::aX k w::aZ k w::aY k w::aL (H3) k.pn w.n::aC nameS k.qs w.sd::aS (H3) k.pc k.qc rc::aC nameQ k.qc re::R):=a2 hw;rw [oO c2] at hw;have hw:Has 0 w0 W (cQ H3 (k.pc c) (k.qc c) u::aB nameQ (k.qc c) d::Fz H3::aP H3 k.ps k.qs w.servers::aR p k::bC k w::aX k w::aZ k w::aY k w::aL (H3) k.pn w.n::aC nameS k.qs w.sd::aS (H3) k.pc k.qc rc::aC nameQ k.qc re::R):=hw.pm;refine aH hs (hc:=aHq (gV s.t (iU u) 10) (aC7 ht).1 (aC7 ht).2 hv3 h1 (hH.trans hle3) hT hw) (k:=?_);rintro e' W ⟨H4,rfl,hle4,hw⟩;refine ⟨_,rfl,fun a hs=>?_⟩;have hw:=hw.lz hle4;refine sv hs hw fun a hs=>?_;refine rt1 hs rfl rfl ⟨H4,rfl,hle3.trans hle4,?_⟩;rw [←e3];have hw:Has 0 w0 W (cQ H4 (k.pc c) (k.qc c) u2::aB nameQ (k.qc c) d2::aR p k::bC k w::aX k w::aZ k w::aY k w::aL (H4) k.pn w.n::aP (H4) k.ps k.qs w.servers::aC nameS k.qs w.sd::aS (H4) k.pc k.qc rc::aC nameQ k.qc re::Fz H4::R):=hw.pm;exact gv hw
theorem aIm {sid:Int} (h:oF w c sid=some (w',err)) (hH:(fr w0).le H) (hT:Tabs w0) (hw:Has 0 w0 W (bJ H p w::Fz H::R)):
  Calls prog 60 ⟨[ptr p,.int .i64 c,.int .i64 sid]⟩ W fun e W'=>∃H':Fh,e= .returned (.int .i64 err)∧H.le H'∧Has 0 w0 W' (bJ H' p w'::Fz H'::R):=by
 obtain ⟨k,hw⟩:=iV hw;exact (aIl h hH hT hw).mono fun e W ⟨H',e1,hle,hw⟩=>⟨H',e1,hle,eP hw⟩
theorem aIn {u:cZ} (h:gM u=true):∀b∈iD u,mT b=true:=by
 unfold gM at h;simp only [Bool.and_eq_true,decide_eq_true_eq,List.all_eq_true] at h;exact fun b hb=>h.1.1.1.1.2 b (List.mem_of_mem_drop hb)
theorem aIo (h:qV w c id=some (w',err)) (hH:(fr w0).le H) (hT:Tabs w0) (hw:Has 0 w0 W (bJ H p w::Fz H::R)):
  Calls prog 57 ⟨[ptr p,.int .i64 c,.int .i64 id]⟩ W fun e W'=>∃H':Fh,e= .returned (.int .i64 err)∧H.le H'∧Has 0 w0 W' (bJ H' p w'::Fz H'::R):=by
 obtain ⟨k,hw⟩:=iV hw;refine en Tryz.func57 Tryz.ntmps57 fun a hs=>?_;refine sv hs hw fun a hs=>?_;have hw:Has 0 w0 W (aR p k::aX k w::bC k w::aZ k w::aY k w::aL H k.pn w.n::aP H k.ps k.qs w.servers::aC nameS k.qs w.sd::aS H k.pc k.qc w.clients::aC nameQ k.qc w.cd::Fz H::R):=hw.pm;refine cl hs (nD c hw) fun a W hs hw=>?_;refine sv hs hw fun a hs=>?_;have hw:Has 0 w0 W (aR p k::bC k w::aX k w::aZ k w::aY k w::aL H k.pn w.n::aP H k.ps k.qs w.servers::aC nameS k.qs w.sd::aS H k.pc k.qc w.clients::aC nameQ k.qc w.cd::Fz H::R):=hw.pm;refine cl hs (nC id hw) fun a W hs hw=>?_;unfold qV at h;unfold dX at hs;cases c1:at? w.clients c with
 |none=>
  simp only [c1] at h;rw [c1] at hs;injection h with h;injection h with e1 e2;subst e1 e2;refine sv hs hw fun a hs=>?_;exact rt1 hs rfl rfl ⟨H,rfl,Fh.le.refl H,eP hw⟩
 |some u=>
 rw [c1] at hs;cases c2:at? w.servers id with
 |none=>
  simp only [c1,c2] at h;rw [c2] at hs;injection h with h;injection h with e1 e2;subst e1 e2;refine sv hs hw fun a hs=>?_;exact rt1 hs rfl rfl ⟨H,rfl,Fh.le.refl H,eP hw⟩
 |some s=>
 rw [c2] at hs;cases c3:at? w.sd id with
 |none=>simp only [c1,c2,c3] at h;cases h
 |some d=>
 simp only [c1,c2,c3] at h;obtain ⟨rc,tk,gv⟩:=yA (w0:=w0) (p:=p) (k:=k) (w:=w) c1;obtain ⟨rs,rd,tk2,gv2⟩:=t6 (w0:=w0) (p:=p) (k:=k) (w:=w) c2 c3;have hw:=tk hw;have hbat:∀b∈iD u,mT b=true:=by
  obtain ⟨b,hw⟩:=nB hw;exact aIn (lE hw.swap2).1
 refine sv hs hw fun a hs=>?_;have hw:Has 0 w0 W (cQ H (k.pc c) (k.qc c) u::Fz H::aR p k::bC k w::aX k w::aZ k w::aY k w::aL (H) k.pn w.n::aP (H) k.ps k.qs w.servers::aC nameS k.qs w.sd::aS (H) k.pc k.qc rc::aC nameQ k.qc w.cd::R):=hw.pm;refine aH hs (hc:=aIP hw) (k:=?_);rintro e' W ⟨mv,H3,rfl,hle3,hmv,hw⟩;refine ⟨_,rfl,fun a hs=>?_⟩;have hw:=hw.lz hle3;unfold tY at hs hmv;cases c4:iD u with
 |nil=>
  rw [c4] at hs hmv h;obtain ⟨mad,mcap,rfl⟩:=hmv.slice;injection h with h;injection h with e1 e2;subst e1 e2;refine sv hs hw fun a hs=>?_;refine sn hs hw fun b9 a W hs hw=>?_;refine sx hs hw fun a W hs hw=>?_;refine rt1 hs rfl rfl ⟨H3,rfl,hle3,?_⟩;have hw:Has 0 w0 W (cQ H3 (k.pc c) (k.qc c) u::aR p k::bC k w::aX k w::aZ k w::aY k w::aL (H3) k.pn w.n::aP (H3) k.ps k.qs w.servers::aC nameS k.qs w.sd::aS (H3) k.pc k.qc rc::aC nameQ k.qc w.cd::Fz H3::R):=hw.sl;exact eP (gv hw)
 |cons b l=>
 rw [c4] at hs hmv h hbat;rw [show ((b::l).headD (⟨0,0,[]⟩:cT))=b from rfl] at hs hmv;rw [show (!(b::l).isEmpty)=true from rfl] at hs;have hb:=hbat b (by simp);obtain ⟨mad,mcap,rfl⟩:=hmv.slice;obtain ⟨⟨d2,s2,row,ms,e2⟩,h1,h2⟩:=Option.map_eq_some_iff.1 h;injection h2 with e3 e4;subst e4;refine sv hs hw fun a hs=>?_;refine sn hs hw fun b9 a W hs hw=>?_;refine sx hs hw fun a W hs hw=>?_;have hw:Has 0 w0 W (cQ H3 (k.pc c) (k.qc c) u::aR p k::bC k w::aX k w::aZ k w::aY k w::aL (H3) k.pn w.n::aP (H3) k.ps k.qs w.servers::aC nameS k.qs w.sd::aS (H3) k.pc k.qc rc::aC nameQ k.qc w.cd::aA b9 (aK b (.slice mad b.l.length mcap)) 66::Fz H3::R):=hw.pm;have hw:Has 0 w0 W (aR p k::bC k w::aX k w::aZ k w::aY k w::aL H3 k.pn w.n::aP H3 k.ps k.qs w.servers::aC nameS k.qs w.sd::aS H3 k.pc k.qc w.clients::aC nameQ k.qc w.cd::aA b9 (aK b (.slice mad b.l.length mcap)) 66::Fz H3::R):=gv hw;have hw:=tk2 hw;have hw:Has 0 w0 W (cE H3 (k.ps id) (k.qs id) s::aB nameS (k.qs id) d::Fz H3::aA b9 (aK b (.slice mad b.l.length mcap)) 66::aR p k::bC k w::aX k w::aZ k w::aY k w::aL (H3) k.pn (w.n)::aP (H3) k.ps k.qs rs::aC nameS k.qs rd::aS (H3) k.pc k.qc w.clients::aC nameQ k.qc w.cd::R):=hw.pm;refine aH hs (hc:=aHy b hb hmv h1 (hH.trans hle3) hT hw) (k:=?_);rintro e' W ⟨rad,rcap,v',H4,rfl,hle4,hw⟩;refine ⟨_,rfl,fun a hs=>?_⟩;have hw:=hw.lz hle4;refine sv hs hw fun a hs=>?_;refine sn hs hw fun b11 a W hs hw=>?_;refine sx hs hw fun a W hs hw=>?_;have hw:Has 0 w0 W (aR p k::aL H4 k.pn w.n::aD H4 v' ms::Fz H4::aA b11 (aI row (.slice rad row.b.l.length rcap)) 68::aA b9 (aK b (.slice mad b.l.length mcap)) 66::cE H4 (k.ps id) (k.qs id) s2::aB nameS (k.qs id) d2::bC k w::aX k w::aZ k w::aY k w::aP H4 k.ps k.qs rs::aC nameS k.qs rd::aS H4 k.pc k.qc w.clients::aC nameQ k.qc w.cd::R):=hw.pm;refine aH hs (hc:=tZ hw) (k:=?_);rintro e' W ⟨H5,rfl,hle5,hw⟩;refine ⟨_,rfl,fun a hs=>?_⟩;have hw:=hw.lz hle5;refine sv hs hw fun a hs=>?_;refine rt1 hs rfl rfl ⟨H5,rfl,(hle3.trans hle4).trans hle5,?_⟩;rw [←e3];have hw:Has 0 w0 W (cE (H5) (k.ps id) (k.qs id) (s2)::aB nameS (k.qs id) (d2)::aR p k::bC k w::aX k w::aZ k w::aY k w::aL (H5) k.pn ((iE w.n ms))::aP (H5) k.ps k.qs rs::aC nameS k.qs rd::aS (H5) k.pc k.qc w.clients::aC nameQ k.qc w.cd::Fz H5::R):=hw.sl;exact gv2 hw
end
section
variable {α:Type} {w0 W:World} {R L:List Res} {H H':Fh} {p q b:Nat} {f g ps qs pc qc:Int→Nat}
def upd (f:Int→Nat) (k:Int) (b:Nat):Int→Nat:=fun x=>if x=k then b else f x
theorem mB (f:Int→Nat) (k:Int) (b:Nat):upd f k b k=b:=by unfold upd;rw [if_pos rfl]
theorem lJ {k x:Int} (h:x≠k):upd f k b x=f x:=by unfold upd;rw [if_neg h]
theorem oP {k:Int}:∀{l:List Int},k∉l→gN (kvs f l) k (ptr b)=kvs (upd f k b) (l ++ [k])
 | [],_=>by show [(k,ptr b)]= [(k,ptr (upd f k b k))];rw [mB]
 |x::l,h=>by
  have h1:x≠k:=fun e=>h (by rw [e];simp);have h2:k∉l:=fun e=>h (by simp [e]);have ih:=oP h2;show (match ksI k x with|true=>_|false=>_)=_;rw [show ksI k x=false from by cases h9:ksI k x with|false=>rfl|true=>exact absurd (jY.1 h9).symm h1];show (x,ptr (f x))::gN (kvs f l) k (ptr b)=(x,ptr (upd f k b x))::kvs (upd f k b) (l ++ [k]);rw [ih,lJ h1]
theorem aC8 {x:Int}:∀{l:List Int},x∈l→jZ (kvs f l) x=some (ptr (f x))
 | [],h=>by cases h
 |y::l,h=>by
  show (match ksI x y with|true=>_|false=>_)=_;cases h9:ksI x y with
  |true=>rw [jY.1 h9]
  |false=>
   simp only [List.mem_cons] at h;rcases h with h|h
   ·rw [jY.2 h] at h9;cases h9
   ·exact aC8 h
theorem uE {k:Int} {v:α}:∀{l:List (Int×α)},at? l k=none→cH l k v=l ++ [(k,v)]
 | [],_=>rfl
 |p::l,h=>by
  unfold at? at h;unfold cH;split at h
  ·cases h
  ·rename_i h1;rw [if_neg h1,uE h];rfl
theorem yB {k k':Int} {v:α} (hk:k'≠k):∀{l:List (Int×α)},at? (cH l k v) k'=at? l k'
 | []=>by show (if k=k' then _ else _)=_;rw [if_neg (Ne.symm hk)]
 |p::l=>by
  unfold cH;split
  ·rename_i h1;show (if k=k' then _ else at? l k')=(if p.1=k' then _ else at? l k');rw [if_neg (Ne.symm hk),if_neg (by rw [h1];exact Ne.symm hk)]
  ·show (if p.1=k' then _ else at? (cH l k v) k')=(if p.1=k' then _ else at? l k');rw [yB hk]
theorem yC {k:Int}:∀{l:List (Int×α)},at? l k=none→k∉l.map (·.1)
 | [],_=>by simp
 |p::l,h=>by
  unfold at? at h;split at h
  ·cases h
  ·rename_i h1;have:=yC h;simp only [List.map_cons,List.mem_cons,not_or];exact ⟨Ne.symm h1,this⟩
theorem yD {F G:Int×α→Res} {l:List (Int×α)} {x:Int×α} (hl:∀y∈l,F y=G y) (h:Has 0 w0 W (G x::fH (l.map F)::R)):Has 0 w0 W (fH ((l ++ [x]).map G)::R):=by
 have h:=l7 h.swap2;rw [List.map_congr_left hl] at h;refine jH ?_;rw [List.map_append,List.append_assoc];exact h
theorem aC9 {nm:ByteArray} {k:Int} {d:bM} {l:List (Int×bM)} (hk:k∉l.map (·.1)) (h:Has 0 w0 W (aB nm b d::aC nm f l::R)):Has 0 w0 W (aC nm (upd f k b) (l ++ [(k,d)])::R):=by
 refine yD (F:=fun x=>aB nm (f x.1) x.2) (G:=fun x=>aB nm (upd f k b x.1) x.2) (x:=(k,d)) (fun y hy=>?_) ?_
 ·show aB nm (f y.1) y.2=aB nm (upd f k b y.1) y.2;rw [lJ (fun e=>hk (by rw [←e];exact List.mem_map_of_mem hy))]
 ·show Has 0 w0 W (aB nm (upd f k b k) d::aC nm f l::R);rw [mB];exact h
theorem aCa {k:Int} {s:cW} {l:List (Int×cW)} (hk:k∉l.map (·.1)) (h:Has 0 w0 W (cE H b (qs k) s::aP H ps qs l::R)):Has 0 w0 W (aP H (upd ps k b) qs (l ++ [(k,s)])::R):=by
 refine yD (F:=fun x=>cE H (ps x.1) (qs x.1) x.2) (G:=fun x=>cE H (upd ps k b x.1) (qs x.1) x.2) (x:=(k,s)) (fun y hy=>?_) ?_
 ·show cE H (ps y.1) (qs y.1) y.2=cE H (upd ps k b y.1) (qs y.1) y.2;rw [lJ (fun e=>hk (by rw [←e];exact List.mem_map_of_mem hy))]
 ·show Has 0 w0 W (cE H (upd ps k b k) (qs k) s::aP H ps qs l::R);rw [mB];exact h
theorem aIp {k:Int} {c:Nat} {u:cZ} {l:List (Int×cZ)} (hk:k∉l.map (·.1)) (h:Has 0 w0 W (cQ H b c u::aS H pc qc l::R)):Has 0 w0 W (aS H (upd pc k b) (upd qc k c) (l ++ [(k,u)])::R):=by
 refine yD (F:=fun x=>cQ H (pc x.1) (qc x.1) x.2) (G:=fun x=>cQ H (upd pc k b x.1) (upd qc k c x.1) x.2) (x:=(k,u)) (fun y hy=>?_) ?_
 ·show cQ H (pc y.1) (qc y.1) y.2=cQ H (upd pc k b y.1) (upd qc k c y.1) y.2;have hne:y.1≠k:=fun e=>hk (by rw [←e];exact List.mem_map_of_mem hy);rw [lJ hne,lJ hne]
 ·show Has 0 w0 W (cQ H (upd pc k b k) (upd qc k c k) u::aS H pc qc l::R);rw [mB,mB];exact h
theorem uF:∀(n:Nat) (k:Int),bD (n+1) k=bD n k ++ [k+n]
 |0,k=>by simp [bD]
 |n+1,k=>by
  have:=uF n (k+1);rw [bD,this,bD,List.cons_append];congr 3;omega
theorem uG:∀{n:Nat} {k x:Int},x∈bD n k→k≤x∧x<k+n
 |0,k,x,h=>by cases h
 |n+1,k,x,h=>by
  simp only [bD,List.mem_cons] at h;rcases h with h|h
  ·omega
  ·have:=uG h;omega
theorem uH:∀(n:Nat) (k:Int),(bD n k).length=n
 |0,_=>rfl
 |n+1,k=>by show (bD n (k+1)).length+1=n+1;rw [uH]
theorem aCb (n:Nat) (k:Int):k+n∉bD n k:=fun h=>by have:=uG h;omega
theorem aCc:∀(n:Nat) (k:Int),(bD n k).Nodup
 |0,_=>List.nodup_nil
 |n+1,k=>List.nodup_cons.2 ⟨fun h=>by have:=uG h;omega,aCc n (k+1)⟩
theorem aCd {F:Int→α}:∀{n:Nat} {k x:Int},x∈bD n k→at? ((bD n k).map fun c=>(c,F c)) x=some (F x)
 |0,k,x,h=>by cases h
 |n+1,k,x,h=>by
  show (if k=x then some (F k) else at? ((bD n (k+1)).map fun c=>(c,F c)) x)=_
  by_cases h1:k=x
  ·rw [if_pos h1,h1]
  ·rw [if_neg h1];simp only [bD,List.mem_cons] at h;rcases h with h|h
   ·exact absurd h.symm h1
   ·exact aCd h
theorem aCe {all:List Int}:∀{l:List Int} {w w':bH},oE all l w=some w'→w'.clients=w.clients∧w'.cd=w.cd∧w'.n=w.n
 | [],w,w',h=>by injection h with h;subst h;exact ⟨rfl,rfl,rfl⟩
 |id::l,w,w',h=>by
  unfold oE at h;obtain ⟨x,h1,h2⟩:=Option.bind_eq_some_iff.1 h;have h3:=aCe (w:={w with servers:=cH w.servers id x.2,sd:=cH w.sd id x.1}) h2;exact h3
theorem aIq {i:Nat} (h:i<5):gM (eI ((i:Int)+1))=true:=by
 have:i=0∨i=1∨i=2∨i=3∨i=4:=by omega
 rcases this with rfl|rfl|rfl|rfl|rfl <;> rfl
theorem aIr {n:Nat} (h1:1≤n) (h:n≤7):dB (bD n 1)=true:=by
 have:n=1∨n=2∨n=3∨n=4∨n=5∨n=6∨n=7:=by omega
 rcases this with rfl|rfl|rfl|rfl|rfl|rfl|rfl <;> rfl
end
section
variable {w0 W:World} {R L:List Res} {H H':Fh} {p q:Nat} {k:WPt} {w w':bH} {u u':cZ} {c id err:Int} {s:cW} {d d':bM}
theorem uJ (n:List bF):(((n.length:Nat):Int) == 0)=n.isEmpty:=by
 cases n with
 |nil=>rfl
 |cons a l=>simp;omega
theorem mC:Has 0 w0 W (bJ H p w::R)→∃k:WPt,(∀{W},Has 0 w0 W (aR p k::aL H k.pn w.n::bC k w::aX k w::aZ k w::aY k w::aP H k.ps k.qs w.servers::aC nameS k.qs w.sd::aS H k.pc k.qc w.clients::aC nameQ k.qc w.cd::R)→Has 0 w0 W (bJ H p w::R))∧Has 0 w0 W (aR p k::aL H k.pn w.n::bC k w::aX k w::aZ k w::aY k w::aP H k.ps k.qs w.servers::aC nameS k.qs w.sd::aS H k.pc k.qc w.clients::aC nameQ k.qc w.cd::R):=by
 intro hw;obtain ⟨k,hw⟩:=iV hw;exact ⟨k,fun g=>eP (g.pm),hw.pm⟩
theorem aCo {n:Nat} {b:Bool} (hn:n≤20000) (h:l0 n w=some (w',b)) (hH:(fr w0).le H) (hT:Tabs w0) (hw:Has 0 w0 W (bJ H p w::Fz H::R)):
  Calls prog 62 ⟨[ptr p,.int .i64 (n:Int)]⟩ W fun e W'=>∃H':Fh,e= .returned (.bool b)∧H.le H'∧Has 0 w0 W' (bJ H' p w'::Fz H'::R):=by
 refine en Tryz.func62 Tryz.ntmps62 fun a hs=>?_;refine sv hs hw fun a hs=>?_;refine kU hs fun a hs=>?_;refine kT hs fun a hs=>?_;rw [show min (max (n:Int) 0) 20000=(n:Int) by omega] at hs;refine sv hs hw fun a hs=>?_;refine bX (σ:=Nat×bH×Fh) (fun z=>[(0,ptr p),(7,.int .i64 (n:Int)),(8,.int .i64 (z.1:Int))]) (fun z=>bJ z.2.2 p z.2.1::Fz z.2.2::R) (fun z=>z.1≤n∧H.le z.2.2∧l0 (n - z.1) z.2.1=some (w',b)) (fun z=>n - z.1) (0,w,H) ⟨Nat.zero_le _,Fh.le.refl H,h⟩ hs ⟨rfl,rfl,rfl,trivial⟩ hw ?_;clear hs hw h;rintro ⟨i,w2,H2⟩ a W ⟨hi,hle,h⟩ hs hw;simp only at hi hle h hs hw;refine sv hs hw fun a hs=>?_;refine cI hs (kt:=fun hcc=>?_) (kf:=fun hcc=>?_)
 ·have hi':i<n:=by simpa using hcc
  refine sv hs hw fun a hs=>?_;obtain ⟨k,gv,hw⟩:=mC hw;refine cl hs (l8 hw) fun a W hs hw=>?_;refine cl hs (kK hw.swap2) fun a W hs hw=>?_;have hw:=gv hw.swap2;refine sv hs hw fun a hs=>?_;rw [uJ] at hs;rw [show n - i=(n - (i+1))+1 by omega] at h;unfold l0 at h;cases hn9:w2.n with
  |nil=>
   simp only [hn9] at h;injection h with h;injection h with e1 e2;subst e1 e2;rw [hn9] at hs;refine sv hs hw fun a hs=>?_;obtain ⟨k,gv,hw⟩:=mC hw;refine cl hs (l8 hw) fun a W hs hw=>?_;refine cl hs (kK hw.swap2) fun a W hs hw=>?_;have hw:=gv hw.swap2;refine sv hs hw fun a hs=>?_;rw [uJ,hn9] at hs;exact rt1 hs rfl rfl ⟨H2,rfl,hle,hw⟩
  |cons m ms=>
   simp only [hn9] at h;obtain ⟨w3,h1,h2⟩:=Option.bind_eq_some_iff.1 h;rw [hn9] at hs;rw [show (m::ms).isEmpty=false from rfl] at hs;refine sv hs hw fun a hs=>?_;refine aH hs (hc:=aIR hn9 h1 (hH.trans hle) hT hw) (k:=?_);rintro e' W ⟨H3,rfl,hle3,hw⟩;refine ⟨_,rfl,fun a hs=>?_⟩;refine sv hs hw fun a hs=>?_;refine bS (i+1,w3,H3) hs hw ⟨hi',hle.trans hle3,h2⟩ (by show n - (i+1)<n - i;omega) ⟨rfl,rfl,bU (i1 (by omega)),trivial⟩
 ·have hi':i=n:=by simp at hcc;omega
  rw [hi',Nat.sub_self] at h;injection h with h;injection h with e1 e2;subst e1 e2;refine sv hs hw fun a hs=>?_;obtain ⟨k,gv,hw⟩:=mC hw;refine cl hs (l8 hw) fun a W hs hw=>?_;refine cl hs (kK hw.swap2) fun a W hs hw=>?_;have hw:=gv hw.swap2;refine sv hs hw fun a hs=>?_;rw [uJ] at hs;exact rt1 hs rfl rfl ⟨H2,rfl,hle,hw⟩
end
end Go.Proofs.YtgpbngfehfbndaaGreatDoor.Sw
