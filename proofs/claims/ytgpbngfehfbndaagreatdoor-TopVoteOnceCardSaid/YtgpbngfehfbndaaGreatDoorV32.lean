import Derived.Test.YtgpbngfehfbndaaGreatDoorV29
set_option maxHeartbeats 16000000
set_option linter.all false
set_option maxRecDepth 10000
namespace Go.Proofs.YtgpbngfehfbndaaGreatDoor.Sw
open Go.RowKit Go.Sx
open Go.Proofs.Tryz (prog)
section
variable {H H':Fh} {p:Nat} {w0 W:World} {R L:List Res} {l:List bF}
theorem aIE {K:Nat} {v:Value} {xs:List Value} (h1:∀u∈xs,u.oneCell'=true) (hw:Has 0 w0 W (Sx.Own 38 13 v (K+1) xs::R)):
  Calls prog 80 ⟨[v,.int .i64 0,.int .i64 1]⟩ W fun e W'=>∃x:Option Addr×Nat,e= .returned (.slice x.1 K x.2)∧True∧Has 0 w0 W' (Sx.Own 38 13 (.slice x.1 K x.2) K (xs.drop 13)::R):=by
 rcases hw.own_cases with ⟨_,h0⟩|⟨g,cap,cur,rfl,ht,hcl,hkc,hcm,hw⟩
 ·omega
 have hxl:xs.length=(K+1)*13:=by rw [←ht,List.length_take,hcl];have:=Nat.mul_le_mul_right 13 hkc;omega
 have hcap:K*13+13≤cur.length:=by rw [hcl];have:=Nat.mul_le_mul_right 13 hkc;omega
 obtain ⟨news,hnews⟩:∃news,news=xs.drop 13:=⟨_,rfl⟩
 have hnl:news.length=K*13:=by rw [hnews,List.length_drop];omega
 have hrd:Rd W 13 (gH g 13 (K+1) cap 1) K news:=by
  have:=sH (hw.block In.hd).1 hcl hkc (show 1≤K+1 by omega) hcm;rw [ht,Nat.one_mul,←hnews] at this;exact this
 have hn1:∀u∈news,u.oneCell'=true:=fun u hu=>h1 u (by rw [hnews] at hu;exact List.mem_of_mem_drop hu);rw [←hnews];have hrd2:∀{W},Has 0 w0 W (aA g cur 38::R)→Rd W 13 (gH g 13 (K+1) cap 1) K news:=fun hw=>by
  have:=sH (hw.block In.hd).1 hcl hkc (show 1≤K+1 by omega) hcm;rw [ht,Nat.one_mul,←hnews] at this;exact this
 refine en Tryz.func80 Tryz.ntmps80 fun a hs=>?_;refine sv hs hw fun a hs=>?_;refine aCM (z:=fC) (i:=0) (j:=1) (m:=K+1) hs (by omega) (by omega) hkc fun a v13 hs=>?_;refine sv hs hw fun a hs=>?_;refine bB [6] [.f 0 0,.f 0 0,.f 0 0,.f 0 0,.f 0 0,.f 0 0,.m 0,.f 1 1] [.c0 _,.c0 _,.c0 (.slice (some ⟨g,0,none⟩) 0 cap),.c0 _,.c0 _,.c0 (gH g 13 (K+1) cap 1),.c1 (fun x=> .slice (some ⟨g,0,none⟩) (0+K) cap),.c1 _] (aA g cur 38::R) (fun x=>aA g (ov cur (0*13) news) 38::R) (fun x y=>[]) (fun x y z=>[]) (fun x y z t=>[]) hs hw ?kk ⟨drs,drs,?f2,drs,drs,?f5,?m0,drs,trivial⟩
 case f2=>
  refine ⟨?_,trivial,trivial,trivial,trivial⟩;intro x y z t LD a W hs hw;refine pP (z:=fC) (m:=0) (k:=K+1) hs (by omega) hkc (by omega) (c:=fun a hs=>?_);exact ⟨hs,hw⟩
 case f5=>
  refine ⟨?_,trivial,trivial,trivial,trivial⟩;intro x y z t LD a W hs hw;refine sG (z:=fC) (m:=1) (k:=K+1) hs (by omega) hkc (c:=fun a hs=>?_);exact ⟨hs,hw⟩
 case m0=>
  intro x y z t LD a W hs hw;refine aCN (k:=0) (m:=K) (cap:=cap) (news:=news) hs hw (eZ (hrd2 hw) hn1) (by omega) (by omega) fun a W hs hw=>?_;exact ⟨{},hs,hw⟩
 case kk=>
 intro _ a W hs hw;have hw:Has 0 w0 W (aA g (ov cur 0 news) 38::R):=hw;have hln:(ov cur 0 news).length=cur.length:=kP _ _ _;have hex:ov cur 0 news=news ++ cur.drop (K*13):=by
  rw [jK _ _ _ (by omega),Nat.zero_add,List.take_zero,List.nil_append,hnl]
 replace hs:Slots a 33 [(0,.slice (some ⟨g,0,none⟩) (0+K) cap),(7,.int .i64 ((K+1:Nat):Int))]:=hs.ot;refine sv hs hw fun a hs=>?_;refine aCO (z:=fC) (i:=0+K) (j:=K+1) hs (by omega) hkc (by omega) fun a hs=>?_;rw [show K+1 - (0+K)=1 by omega] at hs;refine aCP (z:=fC) hs hw (by decide) (by decide) (by rw [hln];show (0+K)*13+13≤_;omega) fun W hs hw=>?_;refine sv hs hw fun a hs=>?_;refine rt1 hs rfl rfl ⟨(some ⟨g,0,none⟩,cap),?_,trivial,?_⟩
 ·rw [Nat.zero_add]
 ·refine hw.shut_own ?_ (by rw [kP,hln];exact hcl) (by omega) hcm;show (ov (ov cur 0 news) ((0+K)*13) fC).take (K*13)=news;rw [Nat.zero_add,jK _ _ _ (by rw [hln];exact hcap),List.append_assoc,List.take_append_of_le_length (by rw [List.length_take,hln];omega),List.take_take,Nat.min_self,hex,List.take_append_of_le_length (by omega),List.take_of_length_le (by omega)]
theorem aIF {m:bF} (hw:Has 0 w0 W (aL H p (m::l)::R)):
  Calls prog 48 ⟨[ptr p,.int .i64 0]⟩ W fun e W'=>e= .returned (.bool true)∧Has 0 w0 W' (aL H p l::R):=by
 refine en Tryz.func48 Tryz.ntmps48 fun a hs=>?_;refine sv hs hw fun a hs=>?_;refine cl hs (kK hw) fun a W hs hw=>?_;refine sv hs hw fun a hs=>?_;rw [show decide ((0:Int)≥(((m::l).length:Nat):Int))=false from decide_eq_false (by rw [List.length_cons];omega)] at hs;obtain ⟨hf,ad,cap,xs,hch,hw⟩:=kJ hw;refine sv hs hw fun a hs=>?_;refine cle hs (aIE (K:=l.length) (hch.ones MsgIn.ones) hw) fun x a W _ hs hw=>?_;refine sx hs hw fun a W hs hw=>?_;refine rt1 hs rfl rfl ⟨rfl,?_⟩;have hd:Ch (MsgIn H) l (xs.drop 13):=by
  have:=Ch.drop MsgIn.len 1 hch;simpa using this
 exact lG hw hd ⟨by have:=hf.1;rw [List.length_cons] at this;omega,fun m' hm'=>hf.2 m' (List.mem_cons_of_mem _ hm')⟩
end
section
variable {H H':Fh} {p:Nat} {w0 W:World} {R L:List Res} {l:List bF}
theorem aIS {K I:Nat} (hI:I≤K) {v:Value} {xs:List Value} (h1:∀u∈xs,u.oneCell'=true) (hw:Has 0 w0 W (Sx.Own 38 13 v (K+1) xs::R)):
  Calls prog 80 ⟨[v,.int .i64 (I:Int),.int .i64 ((I+1:Nat):Int)]⟩ W fun e W'=>∃x:Option Addr×Nat,e= .returned (.slice x.1 K x.2)∧True∧Has 0 w0 W' (Sx.Own 38 13 (.slice x.1 K x.2) K (xs.take (I*13) ++ xs.drop ((I+1)*13))::R):=by
 rcases hw.own_cases with ⟨_,h0⟩|⟨g,cap,cur,rfl,ht,hcl,hkc,hcm,hw⟩
 ·omega
 have hxl:xs.length=(K+1)*13:=by rw [←ht,List.length_take,hcl];have:=Nat.mul_le_mul_right 13 hkc;omega
 have hcap:K*13+13≤cur.length:=by rw [hcl];have:=Nat.mul_le_mul_right 13 hkc;omega
 have hI13:I*13+13≤(K+1)*13:=by omega
 obtain ⟨news,hnews⟩:∃news,news=xs.drop ((I+1)*13):=⟨_,rfl⟩
 have hnl:news.length=(K - I)*13:=by rw [hnews,List.length_drop];omega
 have htk:cur.take (I*13)=xs.take (I*13):=by rw [←ht,List.take_take,Nat.min_eq_left (by omega)]
 have hrd:Rd W 13 (gH g 13 (K+1) cap (I+1)) (K - I) news:=by
  have:=sH (hw.block In.hd).1 hcl hkc (show I+1≤K+1 by omega) hcm;rw [ht,←hnews,show K+1 - (I+1)=K - I by omega] at this;exact this
 have hn1:∀u∈news,u.oneCell'=true:=fun u hu=>h1 u (by rw [hnews] at hu;exact List.mem_of_mem_drop hu);rw [←hnews];have hrd2:∀{W},Has 0 w0 W (aA g cur 38::R)→Rd W 13 (gH g 13 (K+1) cap (I+1)) (K - I) news:=fun hw=>by
  have:=sH (hw.block In.hd).1 hcl hkc (show I+1≤K+1 by omega) hcm;rw [ht,←hnews,show K+1 - (I+1)=K - I by omega] at this;exact this
 refine en Tryz.func80 Tryz.ntmps80 fun a hs=>?_;refine sv hs hw fun a hs=>?_;refine aCM (z:=fC) (i:=I) (j:=I+1) (m:=K+1) hs (by omega) (by omega) hkc fun a v13 hs=>?_;refine sv hs hw fun a hs=>?_;rw [show ((I:Int) == ((I+1:Nat):Int))=false by simp;omega] at hs;refine sv hs hw fun a hs=>?_;refine bB [6] [.f 0 0,.f 0 0,.f 0 0,.f 0 0,.f 0 0,.f 0 0,.m 0,.f 1 1] [.c0 _,.c0 _,.c0 (.slice (some ⟨g,0,none⟩) I cap),.c0 _,.c0 _,.c0 (gH g 13 (K+1) cap (I+1)),.c1 (fun x=> .slice (some ⟨g,0,none⟩) (I+(K - I)) cap),.c1 _] (aA g cur 38::R) (fun x=>aA g (ov cur (I*13) news) 38::R) (fun x y=>[]) (fun x y z=>[]) (fun x y z t=>[]) hs hw ?kk ⟨drs,drs,?f2,drs,drs,?f5,?m0,drs,trivial⟩
 case f2=>
  refine ⟨?_,trivial,trivial,trivial,trivial⟩;intro x y z t LD a W hs hw;refine pP (z:=fC) (m:=I) (k:=K+1) hs (by omega) hkc (by omega) (c:=fun a hs=>?_);exact ⟨hs,hw⟩
 case f5=>
  refine ⟨?_,trivial,trivial,trivial,trivial⟩;intro x y z t LD a W hs hw;refine sG (z:=fC) (m:=I+1) (k:=K+1) hs (by omega) hkc (c:=fun a hs=>?_);exact ⟨hs,hw⟩
 case m0=>
  intro x y z t LD a W hs hw;refine aCN (k:=I) (m:=K - I) (cap:=cap) (news:=news) hs hw (eZ (hrd2 hw) hn1) (by omega) (by omega) fun a W hs hw=>?_;exact ⟨{},hs,hw⟩
 case kk=>
 intro _ a W hs hw;have hw:Has 0 w0 W (aA g (ov cur (I*13) news) 38::R):=hw;have hln:(ov cur (I*13) news).length=cur.length:=kP _ _ _;have hex:ov cur (I*13) news=(xs.take (I*13) ++ news) ++ cur.drop (K*13):=by
  rw [jK _ _ _ (by omega),htk,hnl,show I*13+(K - I)*13=K*13 by omega]
 have hxn:(xs.take (I*13) ++ news).length=K*13:=by rw [List.length_append,List.length_take,hnl,hxl];omega
 replace hs:Slots a 33 [(0,.slice (some ⟨g,0,none⟩) K cap),(7,.int .i64 ((K+1:Nat):Int))]:=by
  have hs:=hs.of (L':=[(0,.slice (some ⟨g,0,none⟩) (I+(K - I)) cap),(7,.int .i64 ((K+1:Nat):Int))]) ⟨rfl,rfl,trivial⟩;rw [show I+(K - I)=K by omega] at hs;exact hs
 refine sv hs hw fun a hs=>?_;refine aCO (z:=fC) (i:=K) (j:=K+1) hs (by omega) hkc (by omega) fun a hs=>?_;rw [show K+1 - K=1 by omega] at hs;refine aCP (z:=fC) hs hw (by decide) (by decide) (by rw [hln];show K*13+13≤_;omega) fun W hs hw=>?_;refine sv hs hw fun a hs=>?_;refine rt1 hs rfl rfl ⟨(some ⟨g,0,none⟩,cap),rfl,trivial,?_⟩;refine hw.shut_own ?_ (by rw [kP,hln];exact hcl) (by omega) hcm;show (ov (ov cur (I*13) news) (K*13) fC).take (K*13)=xs.take (I*13) ++ news;rw [jK _ _ _ (by rw [hln];exact hcap),List.append_assoc,List.take_append_of_le_length (by rw [List.length_take,hln];omega),List.take_take,Nat.min_self,hex,List.take_append_of_le_length (by omega),List.take_of_length_le (by omega)]
theorem xZ {m:bF} {I:Nat} (hm:l[I]? =some m) (hw:Has 0 w0 W (aL H p l::Fz H::R)):
  Calls prog 15 ⟨[ptr p,.int .i64 (I:Int)]⟩ W fun e W'=>∃(v:Value) (H':Fh),e= .returned (.tuple ⟨[.agg ⟨aF m v⟩,.bool true]⟩)∧H.le H'∧fN H' v m.es∧m.snap.conf.size≤1000000∧Has 0 w0 W' (aL H' p l::Fz H'::R):=by
 have hI:=(List.getElem?_eq_some_iff.1 hm).1;refine en Tryz.func15 Tryz.ntmps15 fun a hs=>?_;refine sc hs ?_;refine sn hs hw fun b4 a W hs hw=>?_;refine sv hs hw fun a hs=>?_;rw [show decide ((I:Int)<0)=false from decide_eq_false (by omega)] at hs;refine sv hs hw fun a hs=>?_;have hw:Has 0 w0 W (aL H p l::Fz H::aA b4 fC 38::R):=hw.pm;refine cl hs (kK hw) fun a W hs hw=>?_;refine sv hs hw fun a hs=>?_;rw [show decide ((I:Int)≥(l.length:Int))=false from decide_eq_false (by omega)] at hs;obtain ⟨h4,ad,cap,xs,hc,hw⟩:=kJ hw;have hm8:=h4.2 m (List.mem_of_getElem? hm);refine sx hs hw fun a W hs hw=>?_;refine gT hs (i:=I) (r:=hw.rd_own In.hd) (hk:=MsgIn.len) (ch:=hc) (ho:=hm) (hlen:=rfl) (c:=fun a g off c hmc hcl hpc hlt hs=>?_);obtain ⟨v,rfl,hev,hcs⟩:=hmc;refine eC hs (z:=fC) (cs:=aF m v) (hc:=hpc) (hl:=by rfl) (c:=fun a hs=>?_);have hw:Has 0 w0 W (Fz H::Sx.Own 38 13 (.slice ad l.length cap) l.length xs::eO p (.slice ad l.length cap)::aA b4 fC 38::R):=hw.pm;refine aH hs (hc:=xV m v hev (by omega) hw) (k:=?_);rintro e' W' ⟨v',H',rfl,hle,hev',hw⟩;refine ⟨_,rfl,fun a hs=>?_⟩;obtain ⟨vad,vcap,rfl⟩:=hev'.slice;refine sx hs hw fun a W hs hw=>?_;refine rc2 hs rfl rfl hw inn rfl rfl ⟨_,H',rfl,hle,hev',hcs,?_⟩;have hw:Has 0 w0 W (Sx.Own 38 13 (.slice ad l.length cap) l.length xs::eO p (.slice ad l.length cap)::Fz H'::R):=hw.sl;exact lG hw (hc.mono (MsgIn.le hle)) h4
theorem aIT {m:bF} {I:Nat} (hm:l[I]? =some m) (hw:Has 0 w0 W (aL H p l::R)):
  Calls prog 48 ⟨[ptr p,.int .i64 (I:Int)]⟩ W fun e W'=>e= .returned (.bool true)∧Has 0 w0 W' (aL H p (l.take I ++ l.drop (I+1))::R):=by
 have hI:=(List.getElem?_eq_some_iff.1 hm).1;have hf0:l.length≤400:=(kJ hw).1.1;refine en Tryz.func48 Tryz.ntmps48 fun a hs=>?_;refine sv hs hw fun a hs=>?_;rw [show decide ((I:Int)<0)=false from decide_eq_false (by omega)] at hs;refine sv hs hw fun a hs=>?_;refine cl hs (kK hw) fun a W hs hw=>?_;refine sv hs hw fun a hs=>?_;rw [show decide ((I:Int)≥(l.length:Int))=false from decide_eq_false (by omega)] at hs;obtain ⟨hf,ad,cap,xs,hch,hw⟩:=kJ hw;obtain ⟨K,hK⟩:∃K,l.length=K+1:=⟨l.length - 1,by omega⟩
 rw [hK] at hw;refine sv hs hw fun a hs=>?_;rw [i1 (by omega)] at hs;rw [hK] at hs;refine cle hs (aIS (K:=K) (I:=I) (by omega) (hch.ones MsgIn.ones) hw) fun x a W _ hs hw=>?_;refine sx hs hw fun a W hs hw=>?_;refine rt1 hs rfl rfl ⟨rfl,?_⟩;have hd:Ch (MsgIn H) (l.take I ++ l.drop (I+1)) (xs.take (I*13) ++ xs.drop ((I+1)*13)):=(Ch.take MsgIn.len I hch).app (Ch.drop MsgIn.len (I+1) hch);have hln:(l.take I ++ l.drop (I+1)).length=K:=by rw [List.length_append,List.length_take,List.length_drop];omega
 rw [←hln] at hw;exact lG hw hd ⟨by rw [hln];omega,fun m' hm'=>hf.2 m' (by rcases List.mem_append.1 hm' with h|h;exact List.mem_of_mem_take h;exact List.mem_of_mem_drop h)⟩
end
end Go.Proofs.YtgpbngfehfbndaaGreatDoor.Sw
