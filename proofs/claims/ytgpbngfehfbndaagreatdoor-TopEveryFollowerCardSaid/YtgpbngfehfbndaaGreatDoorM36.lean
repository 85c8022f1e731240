/-
  Texts of the proof, one behind the other (part 36).
-/
import Derived.Test.YtgpbngfehfbndaaGreatDoorM33
import Derived.Test.YtgpbngfehfbndaaGreatDoorChecked
import Derived.Test.YtgpbngfehfbndaaGreatDoorProg
set_option maxHeartbeats 16000000
set_option linter.unusedVariables false
set_option maxRecDepth 10000
namespace Go.Proofs.YtgpbngfehfbndaaGreatDoor.Sw
open Go.RowKit Go.Sx
section
variable {H H':Fh} {p:Nat} {w0 W:World} {R L:List Res} {l:List bS}
abbrev fD (p:Nat) (v:Value):Res:=aA p [v] 88
def rJ (l:List bS):Prop:=l.length≤400∧∀m∈l,m.es.length≤8
def aM (H:Fh) (p:Nat) (l:List bS):Res:=Ex fun v:Value=>fD p v::aD H v l::bO (rJ l):: []
theorem aIq {v:Value} (h:Has 0 w0 W (fD p v::aD H v l::R)) (hl:rJ l):Has 0 w0 W (aM H p l::R):=Has.shut v ((h.fact hl).pm)
theorem rK (h:Has 0 w0 W (aM H p l::R)):rJ l∧∃ad cap xs,Ch (MsgIn H) l xs∧Has 0 w0 W (Sx.Own 38 13 (.slice ad l.length cap) l.length xs::fD p (.slice ad l.length cap)::R):=by
 obtain ⟨v,h⟩:=Has.open h;have h:Has 0 w0 W (fD p v::aD H v l::bO (rJ l)::R):=h;have hl:=h.told (In.tl (In.tl In.hd));obtain ⟨ad,cap,xs,rfl,hc,h⟩:=q9 (h.sl:Has 0 w0 W (aD H v l::fD p v::R));exact ⟨hl,ad,cap,xs,hc,h⟩
theorem nP {v:Value} {xs:List Value} (h:Has 0 w0 W (Sx.Own 38 13 v l.length xs::fD p v::R)) (hc:Ch (MsgIn H) l xs) (hl:rJ l):Has 0 w0 W (aM H p l::R):=aIq ((j0 h hc).swap2) hl
theorem aIr (h:Has 0 w0 W (aM H p l::R)) (hl:H.le H'):Has 0 w0 W (aM H' p l::R):=by
 obtain ⟨h4,ad,cap,xs,hc,h⟩:=rK h;exact nP h (hc.mono (MsgIn.le hl)) h4
instance (H H':Fh) (p:Nat) (l:List bS):g0 H H' (aM H p l) (aM H' p l):=⟨fun hl h=>aIr h hl⟩
theorem aIs (hw:Has 0 w0 W R):Calls Tryz.prog 74 ⟨[]⟩ W fun e W'=>∃p:Nat,e= .returned (ptr p)∧True∧Has 0 w0 W' (aM H p []::R):=by
 refine enter Tryz.func74 Tryz.ntmps74 rfl rfl fun a hs=>?_;refine sv hs hw fun a hs=>?_;refine sn hs hw fun b a W hs hw=>?_;refine sv hs hw fun a hs=>?_;refine rt1 hs rfl rfl ⟨b,rfl,trivial,?_⟩;exact nP (l:=[]) (v:= .slice none 0 0) (xs:=[]) (hw.nilOwn 38 13) rfl ⟨by decide,fun m h=>(by cases h)⟩
theorem nQ (hw:Has 0 w0 W (aM H p l::R)):Calls Tryz.prog 14 ⟨[ptr p]⟩ W fun e W'=>e= .returned (.int .i64 (l.length:Int))∧Has 0 w0 W' (aM H p l::R):=by
 obtain ⟨h4,ad,cap,xs,hc,hw⟩:=rK hw;refine enter Tryz.func14 Tryz.ntmps14 rfl rfl fun a hs=>?_;refine sv hs hw fun a hs=>?_;exact rt1 hs rfl rfl ⟨rfl,nP hw hc h4⟩
theorem aCx (m:bS) (v:Value) (hm:fW H v m.es) (he:m.es.length≤1000) (hw:Has 0 w0 W (Fz H::R)):
  Calls Tryz.prog 47 ⟨[.agg ⟨aI m v⟩]⟩ W fun e W'=>∃(v':Value) (H':Fh),e= .returned (.agg ⟨aI m v'⟩)∧H.le H'∧fW H' v' m.es∧Has 0 w0 W' (Fz H'::R):=by
 obtain ⟨mad,mcap,rfl⟩:=hm.slice;refine enter Tryz.func47 Tryz.ntmps47 rfl rfl fun a hs=>?_;refine sc hs ?_;refine sn hs hw fun b1 a W hs hw=>?_;refine sn hs hw fun b2 a W hs hw=>?_;refine sv hs hw fun a hs=>?_;refine cle hs (tN w0 W m.es _ _ he (fun h=>h.rdH (In.tl (In.tl In.hd)) hm) hw) fun x a W _ hs hw=>?_;refine sx hs hw fun a W hs hw=>?_;have hw:Has 0 w0 W (bV (.slice x.1 m.es.length x.2) m.es::Fz H::aA b2 (aI m (.slice x.1 m.es.length x.2)) 38::R):=hw.sl;obtain ⟨H',hle,hw,hes⟩:=hw.freeze_own;refine rc1 hs rfl rfl hw inn rfl ⟨_,H',rfl,hle,hes,hw.sl⟩
theorem aIt {m:bS} (hw:Has 0 w0 W (aM H p (m::l)::Fz H::R)):
  Calls Tryz.prog 15 ⟨[ptr p,.int .i64 0]⟩ W fun e W'=>∃(v:Value) (H':Fh),e= .returned (.tuple ⟨[.agg ⟨aI m v⟩,.bool true]⟩)∧H.le H'∧fW H' v m.es∧m.snap.conf.size≤1000000∧Has 0 w0 W' (aM H' p (m::l)::Fz H'::R):=by
 refine enter Tryz.func15 Tryz.ntmps15 rfl rfl fun a hs=>?_;refine sc hs ?_;refine sn hs hw fun b4 a W hs hw=>?_;refine sv hs hw fun a hs=>?_;have hw:Has 0 w0 W (aM H p (m::l)::Fz H::aA b4 jJ 38::R):=hw.pm;refine cl hs (nQ hw) fun a W hs hw=>?_;refine sv hs hw fun a hs=>?_;rw [show decide ((0:Int)≥(((m::l).length:Nat):Int))=false from decide_eq_false (by rw [List.length_cons];omega)] at hs;obtain ⟨h4,ad,cap,xs,hc,hw⟩:=rK hw;have hm8:=h4.2 m (List.mem_cons_self ..);refine sx hs hw fun a W hs hw=>?_;refine gA hs (i:=0) (r:=hw.rd_own In.hd) (hk:=MsgIn.len) (ch:=hc) (ho:=show (m::l)[0]? =some m from rfl) (hlen:=rfl) (c:=fun a g off c hmc hcl hpc hlt hs=>?_);obtain ⟨v,rfl,hev,hcs⟩:=hmc;refine eE hs (z:=jJ) (cs:=aI m v) (hc:=hpc) (hl:=by rfl) (c:=fun a hs=>?_);have hw:Has 0 w0 W (Fz H::Sx.Own 38 13 (.slice ad (m::l).length cap) (m::l).length xs::fD p (.slice ad (m::l).length cap)::aA b4 jJ 38::R):=hw.pm;refine aG hs (hc:=aCx m v hev (by omega) hw) (k:=?_);rintro e' W' ⟨v',H',rfl,hle,hev',hw⟩;refine ⟨_,rfl,fun a hs=>?_⟩;obtain ⟨vad,vcap,rfl⟩:=hev'.slice;refine sx hs hw fun a W hs hw=>?_;refine rc2 hs rfl rfl hw inn rfl rfl ⟨_,H',rfl,hle,hev',hcs,?_⟩;have hw:Has 0 w0 W (Sx.Own 38 13 (.slice ad (m::l).length cap) (m::l).length xs::fD p (.slice ad (m::l).length cap)::Fz H'::R):=hw.sl;exact nP hw (hc.mono (MsgIn.le hle)) h4
end
section
variable {H H':Fh} {p:Nat} {w0 W:World} {R L:List Res} {l:List bS}
theorem aIu (m:bS) (v:Value) (hm:fW H v m.es) (hcs:m.snap.conf.size≤1000000) (hw:Has 0 w0 W (aM H p l::Fz H::R)):
  Calls Tryz.prog 77 ⟨[ptr p,.agg ⟨aI m v⟩]⟩ W fun e W'=>∃(b:Bool) (H':Fh),e= .returned (.bool b)∧H.le H'∧Has 0 w0 W' (aM H' p (oU l m)::Fz H'::R):=by
 obtain ⟨mad,mcap,rfl⟩:=hm.slice;obtain ⟨hf,ad,cap,xs,hch,hw⟩:=rK hw;refine enter Tryz.func77 Tryz.ntmps77 rfl rfl fun a hs=>?_;refine sc hs ?_;refine sn hs hw fun b3 a W hs hw=>?_;have hw:Has 0 w0 W (aA b3 (aI m (.slice mad m.es.length mcap)) 38::Sx.Own 38 13 (.slice ad l.length cap) l.length xs::fD p (.slice ad l.length cap)::Fz H::R):=hw;have fin0:∀{W},Has 0 w0 W (aA b3 (aI m (.slice mad m.es.length mcap)) 38::Sx.Own 38 13 (.slice ad l.length cap) l.length xs::fD p (.slice ad l.length cap)::Fz H::R)→Has 0 w0 W (aM H p l::Fz H::R):=fun h=>nP (h.d1) hch hf;refine sx hs hw fun a W hs hw=>?_;refine cl hs (aCP m _ hm hcs inn hw) fun a W hs hw=>?_;cases c1:iS m with
 |false=>
  rw [c1] at hs;refine sv hs hw fun a hs=>?_;refine rt1 hs rfl rfl ⟨false,H,rfl,Fh.le.refl H,?_⟩;rw [show oU l m=l from if_neg (by rw [c1];simp)];exact fin0 hw
 |true=>
 rw [c1] at hs;refine sx hs hw fun a W hs hw=>?_;cases c2:decide ((l.length:Int)≥400) with
 |true=>
  rw [c2] at hs;refine sv hs hw fun a hs=>?_;refine rt1 hs rfl rfl ⟨false,H,rfl,Fh.le.refl H,?_⟩;have:=of_decide_eq_true c2;rw [show oU l m=l from if_neg (by omega)];exact fin0 hw
 |false=>
 rw [c2] at hs;have hlt:l.length<400:=by have:=of_decide_eq_false c2;omega
 have hes:=aCc c1;refine sc hs ?_;refine bG [6,7,8,11] [.f 0 3,.f 0 2,.f 0 2,.f 0 2,.f 0 2,.f 0 0,.m 0,.m 1,.m 2,.f 3 3,.f 3 3,.m 3] [.c0 _,.c0 _,.c0 _,.c0 _,.c0 _,.c0 _,.c1 (fun x=> .agg ⟨aI m (.slice x.ad m.es.length x.cap)⟩),.c2 (fun x y=> .slice (some ⟨y.n,0,none⟩) 1 1),.c3 (fun x y z=> .slice z.ad (l ++ [m]).length z.cap),.c3 _,.c3 _,.c4 (fun x y z t=>undef)] (aA b3 (aI m (.slice mad m.es.length mcap)) 38::Sx.Own 38 13 (.slice ad l.length cap) l.length xs::fD p (.slice ad l.length cap)::Fz H::R) (fun x=>aA b3 (aI m (.slice mad m.es.length mcap)) 38::Sx.Own 38 13 (.slice ad l.length cap) l.length xs::fD p (.slice ad l.length cap)::FzF x.H (H.le x.H∧fW x.H (.slice x.ad m.es.length x.cap) m.es)::R) (fun x y=>aA y.n (aI m (.slice x.ad m.es.length x.cap)) 38::aA b3 (aI m (.slice mad m.es.length mcap)) 38::Sx.Own 38 13 (.slice ad l.length cap) l.length xs::fD p (.slice ad l.length cap)::FzF x.H (H.le x.H∧fW x.H (.slice x.ad m.es.length x.cap) m.es)::R) (fun x y z=>Sx.Own 38 13 (.slice z.ad (l ++ [m]).length z.cap) (l ++ [m]).length (xs ++ aI m (.slice x.ad m.es.length x.cap))::fD p (.slice ad l.length cap)::FzF x.H (H.le x.H∧fW x.H (.slice x.ad m.es.length x.cap) m.es)::R) (fun x y z t=>Sx.Own 38 13 (.slice z.ad (l ++ [m]).length z.cap) (l ++ [m]).length (xs ++ aI m (.slice x.ad m.es.length x.cap))::fD p (.slice z.ad (l ++ [m]).length z.cap)::FzF x.H (H.le x.H∧fW x.H (.slice x.ad m.es.length x.cap) m.es)::R) hs hw ?kk ⟨drs,drs,drs,drs,drs,drs,?m0,drn,?m2,drs,drs,drm,trivial⟩
 case m0=>
  intro x y z t LD a W hs hw;have hw:Has 0 w0 W (Fz H::aA b3 (aI m (.slice mad m.es.length mcap)) 38::Sx.Own 38 13 (.slice ad l.length cap) l.length xs::fD p (.slice ad l.length cap)::R):=hw.pm;refine aG hs (hc:=aCx m _ hm (by omega) hw) (k:=?_);rintro e' W' ⟨v',H2,rfl,hle,hev,hw⟩;refine ⟨_,rfl,fun a hs=>?_⟩;obtain ⟨vad,vcap,rfl⟩:=hev.slice;have hw:=hw.fzf (And.intro hle hev);exact ⟨{ad:=vad,cap:=vcap,H:=H2},hs,hw.pm⟩
 case m2=>
  intro x y z t LD a W hs hw;have hw:Has 0 w0 W (FzF x.H (H.le x.H∧fW x.H (.slice x.ad m.es.length x.cap) m.es)::Sx.Own 38 13 (.slice ad l.length cap) l.length xs::aA y.n (aI m (.slice x.ad m.es.length x.cap)) 38::aA b3 (aI m (.slice mad m.es.length mcap)) 38::fD p (.slice ad l.length cap)::R):=hw.pm;obtain ⟨⟨hle,hev⟩,hw⟩:=hw.unfzf;have hin:MsgIn x.H m (aI m (.slice x.ad m.es.length x.cap)):=⟨_,rfl,hev,hcs⟩
  have hw:Has 0 w0 W (Sx.Own 38 13 (.slice ad l.length cap) l.length xs::aA y.n (aI m (.slice x.ad m.es.length x.cap)) 38::aA b3 (aI m (.slice mad m.es.length mcap)) 38::fD p (.slice ad l.length cap)::Fz x.H::R):=hw.pm;refine jP hs hw In.hd (hch.mono (MsgIn.le hle)) hin rfl rfl (by omega) (by omega) (k:=fun a ad2 cap2 W hs hw _=>?_);have hw:Has 0 w0 W (Fz x.H::Sx.Own 38 13 (.slice ad2 (l ++ [m]).length cap2) (l ++ [m]).length (xs ++ aI m (.slice x.ad m.es.length x.cap))::fD p (.slice ad l.length cap)::R):=hw.sl;have hw:=hw.fzf (And.intro hle hev);exact ⟨{ad:=ad2,cap:=cap2},hs,hw.pm⟩
 case kk=>
 intro x y z t a W hs hw;have hw:Has 0 w0 W (FzF x.H (H.le x.H∧fW x.H (.slice x.ad m.es.length x.cap) m.es)::Sx.Own 38 13 (.slice z.ad (l ++ [m]).length z.cap) (l ++ [m]).length (xs ++ aI m (.slice x.ad m.es.length x.cap))::fD p (.slice z.ad (l ++ [m]).length z.cap)::R):=hw.pm;obtain ⟨⟨hle,hev⟩,hw⟩:=hw.unfzf;refine sv hs hw fun a hs=>?_;refine rt1 hs rfl rfl ⟨true,x.H,rfl,hle,?_⟩;rw [show oU l m=l ++ [m] from if_pos ⟨c1,hlt⟩];have hin:MsgIn x.H m (aI m (.slice x.ad m.es.length x.cap)):=⟨_,rfl,hev,hcs⟩
 refine nP (hw.pm:Has 0 w0 W (Sx.Own 38 13 (.slice z.ad (l ++ [m]).length z.cap) (l ++ [m]).length (xs ++ aI m (.slice x.ad m.es.length x.cap))::fD p (.slice z.ad (l ++ [m]).length z.cap)::Fz x.H::R)) ((hch.mono (MsgIn.le hle)).app (Ch.unit hin)) ⟨by rw [List.length_append,List.length_singleton];omega,fun m' hm'=>?_⟩;rcases List.mem_append.1 hm' with h|h
 ·exact hf.2 m' h
 ·rw [List.mem_singleton] at h;rw [h];exact hes.1
end
end Go.Proofs.YtgpbngfehfbndaaGreatDoor.Sw
