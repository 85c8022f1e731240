/-
  Texts of the proof, one behind the other (part 39).
-/
import Derived.Test.YtgpbngfehfbndaaGreatDoorM36
import Derived.Test.YtgpbngfehfbndaaGreatDoorChecked
import Derived.Test.YtgpbngfehfbndaaGreatDoorProg
set_option maxHeartbeats 16000000
set_option linter.unusedVariables false
set_option maxRecDepth 10000
namespace Go.Proofs.YtgpbngfehfbndaaGreatDoor.Sw
open Go.RowKit Go.Sx
section
variable {H H':Fh} {p:Nat} {w0 W:World} {R L:List Res} {l:List bS}
theorem aIv {K:Nat} {v:Value} {xs:List Value} (h1:∀u∈xs,u.oneCell'=true) (hw:Has 0 w0 W (Sx.Own 38 13 v (K+1) xs::R)):
  Calls Tryz.prog 80 ⟨[v,.int .i64 0,.int .i64 1]⟩ W fun e W'=>∃x:Option Addr×Nat,e= .returned (.slice x.1 K x.2)∧True∧Has 0 w0 W' (Sx.Own 38 13 (.slice x.1 K x.2) K (xs.drop 13)::R):=by
 rcases hw.own_cases with ⟨_,h0⟩|⟨g,cap,cur,rfl,ht,hcl,hkc,hcm,hw⟩
 ·omega
 have hxl:xs.length=(K+1)*13:=by rw [←ht,List.length_take,hcl];have:=Nat.mul_le_mul_right 13 hkc;omega
 have hcap:K*13+13≤cur.length:=by rw [hcl];have:=Nat.mul_le_mul_right 13 hkc;omega
 obtain ⟨news,hnews⟩:∃news,news=xs.drop 13:=⟨_,rfl⟩
 have hnl:news.length=K*13:=by rw [hnews,List.length_drop];omega
 have hrd:Rd W 13 (gU g 13 (K+1) cap 1) K news:=by
  have:=aBf (hw.block In.hd).1 hcl hkc (show 1≤K+1 by omega) hcm;rw [ht,Nat.one_mul,←hnews] at this;exact this
 have hn1:∀u∈news,u.oneCell'=true:=fun u hu=>h1 u (by rw [hnews] at hu;exact List.mem_of_mem_drop hu);rw [←hnews];have hrd2:∀{W},Has 0 w0 W (aA g cur 38::R)→Rd W 13 (gU g 13 (K+1) cap 1) K news:=fun hw=>by
  have:=aBf (hw.block In.hd).1 hcl hkc (show 1≤K+1 by omega) hcm;rw [ht,Nat.one_mul,←hnews] at this;exact this
 refine enter Tryz.func80 Tryz.ntmps80 rfl rfl fun a hs=>?_;refine sv hs hw fun a hs=>?_;refine aIn (z:=jJ) (i:=0) (j:=1) (m:=K+1) hs (by omega) (by omega) hkc fun a v13 hs=>?_;refine sv hs hw fun a hs=>?_;refine bG [6] [.f 0 0,.f 0 0,.f 0 0,.f 0 0,.f 0 0,.f 0 0,.m 0,.f 1 1] [.c0 _,.c0 _,.c0 (.slice (some ⟨g,0,none⟩) 0 cap),.c0 _,.c0 _,.c0 (gU g 13 (K+1) cap 1),.c1 (fun x=> .slice (some ⟨g,0,none⟩) (0+K) cap),.c1 _] (aA g cur 38::R) (fun x=>aA g (ov cur (0*13) news) 38::R) (fun x y=>[]) (fun x y z=>[]) (fun x y z t=>[]) hs hw ?kk ⟨drs,drs,?f2,drs,drs,?f5,?m0,drs,trivial⟩
 case f2=>
  refine ⟨?_,trivial,trivial,trivial,trivial⟩;intro x y z t LD a W hs hw;refine qE (z:=jJ) (m:=0) (k:=K+1) hs (by omega) hkc (by omega) (c:=fun a hs=>?_);exact ⟨hs,hw⟩
 case f5=>
  refine ⟨?_,trivial,trivial,trivial,trivial⟩;intro x y z t LD a W hs hw;refine tC (z:=jJ) (m:=1) (k:=K+1) hs (by omega) hkc (c:=fun a hs=>?_);exact ⟨hs,hw⟩
 case m0=>
  intro x y z t LD a W hs hw;refine aIo (k:=0) (m:=K) (cap:=cap) (news:=news) hs hw (fK (hrd2 hw) hn1) (by omega) (by omega) fun a W hs hw=>?_;exact ⟨{},hs,hw⟩
 case kk=>
 intro _ a W hs hw;have hw:Has 0 w0 W (aA g (ov cur 0 news) 38::R):=hw;have hln:(ov cur 0 news).length=cur.length:=mR _ _ _;have hex:ov cur 0 news=news ++ cur.drop (K*13):=by
  rw [kC _ _ _ (by omega),Nat.zero_add,List.take_zero,List.nil_append,hnl]
 replace hs:Slots a 33 [(0,.slice (some ⟨g,0,none⟩) (0+K) cap),(7,.int .i64 ((K+1:Nat):Int))]:=hs.ot;refine sv hs hw fun a hs=>?_;refine aIp (z:=jJ) (i:=0+K) (j:=K+1) hs (by omega) hkc (by omega) fun a hs=>?_;rw [show K+1 - (0+K)=1 by omega] at hs;refine aCw (z:=jJ) hs hw (by decide) (by decide) (by rw [hln];show (0+K)*13+13≤_;omega) fun W hs hw=>?_;refine sv hs hw fun a hs=>?_;refine rt1 hs rfl rfl ⟨(some ⟨g,0,none⟩,cap),?_,trivial,?_⟩
 ·rw [Nat.zero_add]
 ·refine hw.shut_own ?_ (by rw [mR,hln];exact hcl) (by omega) hcm;show (ov (ov cur 0 news) ((0+K)*13) jJ).take (K*13)=news;rw [Nat.zero_add,kC _ _ _ (by rw [hln];exact hcap),List.append_assoc,List.take_append_of_le_length (by rw [List.length_take,hln];omega),List.take_take,Nat.min_self,hex,List.take_append_of_le_length (by omega),List.take_of_length_le (by omega)]
theorem aIw {m:bS} (hw:Has 0 w0 W (aM H p (m::l)::R)):
  Calls Tryz.prog 48 ⟨[ptr p,.int .i64 0]⟩ W fun e W'=>e= .returned (.bool true)∧Has 0 w0 W' (aM H p l::R):=by
 refine enter Tryz.func48 Tryz.ntmps48 rfl rfl fun a hs=>?_;refine sv hs hw fun a hs=>?_;refine cl hs (nQ hw) fun a W hs hw=>?_;refine sv hs hw fun a hs=>?_;rw [show decide ((0:Int)≥(((m::l).length:Nat):Int))=false from decide_eq_false (by rw [List.length_cons];omega)] at hs;obtain ⟨hf,ad,cap,xs,hch,hw⟩:=rK hw;refine sv hs hw fun a hs=>?_;refine cle hs (aIv (K:=l.length) (hch.ones MsgIn.ones) hw) fun x a W _ hs hw=>?_;refine sx hs hw fun a W hs hw=>?_;refine rt1 hs rfl rfl ⟨rfl,?_⟩;have hd:Ch (MsgIn H) l (xs.drop 13):=by
  have:=Ch.drop MsgIn.len 1 hch;simpa using this
 exact nP hw hd ⟨by have:=hf.1;rw [List.length_cons] at this;omega,fun m' hm'=>hf.2 m' (List.mem_cons_of_mem _ hm')⟩
end
end Go.Proofs.YtgpbngfehfbndaaGreatDoor.Sw
