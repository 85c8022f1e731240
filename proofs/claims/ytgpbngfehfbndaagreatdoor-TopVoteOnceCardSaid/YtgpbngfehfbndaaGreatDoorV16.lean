import Derived.Test.YtgpbngfehfbndaaGreatDoorV15
set_option maxHeartbeats 16000000
set_option linter.all false
set_option maxRecDepth 10000
namespace Go.Sx
open Go.RowKit
section
variable {P:Program} {ops:Array Oper} {rest:List Oper} {Q:Exit→Act→World→Prop} {a:Act} {n:Nat} {L:List (Nat×Value)} {W:World} {d:Nat} {T S E:TypeId} {p:String} {e:Array Edge} {x hi:Operand} {g o k m cap:Nat} {q:IntKind} {z:List Value}
theorem pP {agg:Bool} [sl:Sl P S E] [t:Ty P E agg z] (hs:Slots a n L) (h1:m≤k) (hc:k≤cap) (h0:0<cap) (hx:ev L x=some (.slice (some ⟨g,o,none⟩) k cap):=by with_unfolding_all exact rfl) (hl:ev L hi=some (.int q (m:Int)):=by with_unfolding_all exact rfl) (hd:Nat.blt d n=true:=by with_unfolding_all exact rfl)
  (c:∀a',Slots a' n ((d,.slice (some ⟨g,o,none⟩) m cap)::L)→wpList P ops Q rest a' W):wpList P ops Q (⟨some d,.slice S x none (some hi) none,T,p,e,none⟩::rest) a W:=by
 have hb:(Instr.sliceBound (.int q (m:Int)) cap .sliceAcap).run P W= .ok m W:=by
  have:(0:Int)≤(m:Int)∧(m:Int)≤(cap:Int):=⟨by omega,by omega⟩
  simp only [Instr.sliceBound,asIntOf,Sem.run_bind,Sem.run_pure,Result.andThen_ok];rw [if_pos this];simp
 have hbs:(Instr.sliceBounds true k cap none (some (.int q (m:Int))) none).run P W= .ok (0,m,cap) W:=by
  unfold Instr.sliceBounds;simp [hb]
 refine bP hs hd (v:= .slice (some ⟨g,o,none⟩) m cap) (W':=W) ?_ c;simp only [execOp,Option.map_some,Option.map_none,hs.ev hx,hs.ev hl,Instr.sliceAt,Instr.slice,Sem.run_bind,run_underlying sl.out,Result.andThen_ok,hbs,t.sizeOf,Sem.run_pure]
 by_cases h9:cap=0
 ·omega
 ·simp [h9,eF]
end
end Go.Sx
namespace Go.Proofs.YtgpbngfehfbndaaGreatDoor.Sw
open Go.RowKit Go.Sx
def gV (t:dU) (fr_ n:Int):List cC:=
 if fr_<1∨(t.rows.length:Int)<fr_∨n<1 then [] else (t.rows.drop (fr_ - 1).toNat).take (min n.toNat 10)
section
variable {P:Program} {ops:Array Oper} {rest:List Oper} {Q:Exit→Act→World→Prop} {a:Act} {n:Nat} {L:List (Nat×Value)} {W:World} {d:Nat} {T:TypeId} {p:String} {e:Array Edge} {x y z:Operand} {i j k:Int} {q q' q'':IntKind}
theorem aGA {ts:Array TypeId} (hs:Slots a n L) (v:Int) (hv:(if k<(if j<i then j else i) then k else (if j<i then j else i))=v) (hx:ev L x=some (.int q i):=by with_unfolding_all exact rfl) (hy:ev L y=some (.int q' j):=by with_unfolding_all exact rfl) (hz:ev L z=some (.int q'' k):=by with_unfolding_all exact rfl) (hd:Nat.blt d n=true:=by with_unfolding_all exact rfl)
  (c:∀a',Slots a' n ((d,.int q v)::L)→wpList P ops Q rest a' W):wpList P ops Q (⟨some d,.call {callee:= .builtin .min,args:=#[x,y,z],argTypes:=ts},T,p,e,none⟩::rest) a W:=by
 subst hv;exact bP hs hd (by simp only [execOp,resolve,invoke,builtin,List.map_toArray,List.map_cons,List.map_nil,hs.ev hx,hs.ev hy,hs.ev hz,Sem.run_bind,Sem.run_pure,Result.andThen_ok,run_min_int3]) c
end
theorem aGB (w0 W:World) (H:Fh) (p:Nat) (t:dU) (from_ n:Int) (R:List Res) (hl:t.rows.length≤1000000) (h8:∀r∈t.rows,r.b.l.length≤1000) (hw:Has 0 w0 W (aN H p t::Fz H::R)):
  Calls Tryz.prog 110 ⟨[.pointer (some ⟨p,0,none⟩),.int .i64 from_,.int .i64 n]⟩ W fun e W'=>∃v H',e= .returned v∧H.le H'∧jB H' v (gV t from_ n)∧Has 0 w0 W' (aN H' p t::Fz H'::R):=by
 obtain ⟨pf,vad,vcap,xs,hch,hw⟩:=kZ hw;have hnil:jB H (.slice none 0 0) []:=⟨[],RdH.nil _ _ _ (by omega),rfl⟩
 refine en Tryz.func110 Tryz.ntmps110 fun a hs=>?_;refine zC hs hw ?_;clear hs;intro a hs;cases c1:decide (from_<1) with
 |true=>
  rw [c1] at hs;have hX:gV t from_ n= []:=by unfold gV;rw [if_pos (.inl (of_decide_eq_true c1))]
  rw [hX];refine zC hs hw ?_;clear hs;intro a hs;exact rt1 hs rfl rfl ⟨_,H,rfl,Fh.le.refl _,hnil,fZ hw hch⟩
 |false=>
 rw [c1] at hs;have g1:=of_decide_eq_false c1;refine zC hs hw ?_;clear hs;intro a hs;cases c2:decide (from_ > (t.rows.length:Int)) with
 |true=>
  rw [c2] at hs;have hX:gV t from_ n= []:=by unfold gV;rw [if_pos (.inr (.inl (of_decide_eq_true c2)))]
  rw [hX];refine zC hs hw ?_;clear hs;intro a hs;exact rt1 hs rfl rfl ⟨_,H,rfl,Fh.le.refl _,hnil,fZ hw hch⟩
 |false=>
 rw [c2] at hs;have g2:=of_decide_eq_false c2;refine zC hs hw ?_;clear hs;intro a hs;cases c3:decide (n<1) with
 |true=>
  rw [c3] at hs;have hX:gV t from_ n= []:=by unfold gV;rw [if_pos (.inr (.inr (of_decide_eq_true c3)))]
  rw [hX];refine zC hs hw ?_;clear hs;intro a hs;exact rt1 hs rfl rfl ⟨_,H,rfl,Fh.le.refl _,hnil,fZ hw hch⟩
 |false=>
 rw [c3] at hs;have g3:=of_decide_eq_false c3;obtain ⟨k,hk⟩:∃k:Nat,from_ - 1=(k:Int):=⟨(from_ - 1).toNat,by omega⟩
 obtain ⟨mn,hmn⟩:∃m:Nat,m=min (t.rows.length - k) (min n.toNat 10):=⟨_,rfl⟩
 have hX:gV t from_ n=(t.rows.drop k).take mn:=by
  unfold gV;rw [if_neg (by omega),hk,Int.toNat_natCast];have hld:(t.rows.drop k).length=t.rows.length - k:=List.length_drop
  by_cases h:min n.toNat 10≤t.rows.length - k
  ·rw [show mn=min n.toNat 10 by omega]
  ·rw [List.take_of_length_le (by omega),List.take_of_length_le (by omega)]
 rw [hX];have hkM:k<t.rows.length:=by omega
 have hw:Has 0 w0 W (Sx.Own 68 5 (.slice vad t.rows.length vcap) t.rows.length xs::aA p [.int .i64 t.ix,.pointer (some ⟨pf,0,none⟩),.slice vad t.rows.length vcap] 201::aU H pf t.f::Fz H::R):=hw.pm;obtain ⟨g,cur,rfl,hcur,hcl0,hkc,hcm,hw⟩:=hw.open_own (by omega);refine zC hs hw ?_;clear hs;intro a hs;have ew:IntKind.i64.wrap (from_ - 1)=(k:Int):=by rw [hk,IntWalk.i64_in _ (by omega)]
 rw [ew] at hs;refine sG hs (z:=zrc) (m:=k) (h1:=by omega) (hc:=hkc) (c:=?_);clear hs;intro a hs;have et:gH g zrc.length t.rows.length vcap k= .slice (some ⟨g,k*5,none⟩) (t.rows.length - k) (vcap - k):=by
  unfold gH;rw [if_neg (by omega)];rfl
 rw [et] at hs;refine zC hs hw ?_;clear hs;intro a hs;refine aGA hs (v:=(mn:Int)) (i:=((t.rows.length - k:Nat):Int)) (j:=n) (k:=10) (hv:=by rw [hmn];split <;> split <;> omega) (c:=?_);clear hs;intro a hs;refine pP hs (z:=zrc) (m:=mn) (k:=t.rows.length - k) (cap:=vcap - k) (h1:=by omega) (hc:=by omega) (h0:=by omega) (c:=?_);clear hs;intro a hs;refine zA hs hw ?_;clear hs;intro a hs;have hw:=hw.nilOwn 68 5;have hmr:mn≤t.rows.length - k:=by omega
 have hml:((t.rows.drop k).take mn).length=mn:=by rw [List.length_take,List.length_drop];omega
 obtain ⟨ro,hro⟩:∃x,(t.rows.drop k).take mn=x:=⟨_,rfl⟩
 rw [hro] at hml⊢;have hroi:∀j r,ro[j]? =some r→t.rows[k+j]? =some r:=by
  intro j r h;rw [←hro,List.getElem?_take] at h;split at h
  ·rw [List.getElem?_drop] at h;exact h
  ·cases h
 refine bX (σ:=Nat×Option Addr×Nat×List Value×Fh) (fun u=>[(42,.slice (some ⟨g,k*5,none⟩) mn (vcap - k)),(43,.int .i64 (mn:Int)),(44,.int .i64 (u.1:Int)),(8,.slice u.2.1 (ro.take u.1).length u.2.2.1)]) (fun u=>Sx.Own 68 5 (.slice u.2.1 (ro.take u.1).length u.2.2.1) (ro.take u.1).length u.2.2.2.1::Fz u.2.2.2.2::aA g cur 68::aA p [.int .i64 t.ix,.pointer (some ⟨pf,0,none⟩),.slice (some ⟨g,0,none⟩) t.rows.length vcap] 201::aU H pf t.f::R) (fun u=>u.1≤mn∧H.le u.2.2.2.2∧Ch (RowIn u.2.2.2.2) (ro.take u.1) u.2.2.2.1) (fun u=>mn - u.1) (0,none,0,[],H) ⟨Nat.zero_le _,Fh.le.refl _,rfl⟩ hs ⟨rfl,rfl,rfl,rfl,trivial⟩ (hw.pm) ?_;clear hs hw;rintro ⟨j,oad,ocap,ys,H'⟩ a W ⟨hj,hH',hch2⟩ hs hw;simp only at hj hH' hch2 hs hw;refine zA hs hw ?_;clear hs;intro a hs;refine cI hs (kt:=fun hcc=>?_) (kf:=fun hcc=>?_)
 ·have hj':j<mn:=by simpa using hcc
  obtain ⟨r,hri⟩:∃o,ro[j]? =some o:=⟨ro[j]'(by omega),List.getElem?_eq_getElem _⟩
  have hri0:=hroi j r hri;have hok:=h8 r (List.mem_of_getElem? hri0);have htk:(ro.take j).length≤1000000:=by rw [List.length_take];omega
  obtain ⟨c0,⟨ov0,rfl,hov⟩,hcut⟩:=hch.mem RowIn.len hri0;obtain ⟨rad,rcap,rfl⟩:=hov.slice;refine zG hs ?_;refine eL hs (z:=zrc) (h0:=by omega) (h1:=by omega) (c:=?_);clear hs;intro a hs
  refine eC hs (z:=zrc) (cs:=aI r (.slice rad r.b.l.length rcap)) (hc:=fun m u h=>by
   rw [hC (hw.block (In.tl (In.tl In.hd))).1];have:=Ch.at_cur (R:=RowIn H) (l:=t.rows) (a:=r) (j:=m) hcut hcur h;rw [←this];congr 1;show k*5+j*5+m=(k+j)*5+m
   omega) (hl:=by rfl) (c:=?_);clear hs;intro a hs
  repeat (first|(refine sxv hs hw ?_;clear hs;intro a hs)|refine sxc hs ?_|(refine sxa hs hw ?_;clear hs hw;intro a b W hw hs)|(refine sxs hs hw ?_;clear hs hw;intro W hs hw))
  obtain ⟨b5,q5⟩:=nm1 hw;subst q5;have hw:Has 0 w0 _ (Fz H'::Sx.Own 68 5 (.slice oad (ro.take j).length ocap) (ro.take j).length ys::aA g cur 68::aA p [.int .i64 t.ix,.pointer (some ⟨pf,0,none⟩),.slice (some ⟨g,0,none⟩) t.rows.length vcap] 201::aU H pf t.f::aA b5 (aI r (.slice rad r.b.l.length rcap)) 68::R):=hw.pm;refine aH hs (hc:=aAt w0 _ H' r _ _ hok (hov.le hH') hw) (k:=?_);rintro e0 W1 ⟨nv,H2,rfl,hle,hnv,hw1⟩;refine ⟨_,rfl,?_⟩;clear hs hw;intro a hs;have hw:=hw1;clear hw1;obtain ⟨nad,ncap,rfl⟩:=hnv.slice
  repeat (first|(refine sxv hs hw ?_;clear hs;intro a hs)|refine sxc hs ?_|(refine sxa hs hw ?_;clear hs hw;intro a b W hw hs)|(refine sxs hs hw ?_;clear hs hw;intro W hs hw))
  obtain ⟨bx,qx⟩:=nm1 hw;subst qx;have hw:Has 0 w0 _ (Sx.Own 68 5 (.slice oad (ro.take j).length ocap) (ro.take j).length ys::aA bx (aI r (.slice nad r.b.l.length ncap)) 68::Fz H2::aA g cur 68::aA p [.int .i64 t.ix,.pointer (some ⟨pf,0,none⟩),.slice (some ⟨g,0,none⟩) t.rows.length vcap] 201::aU H pf t.f::aA b5 (aI r (.slice rad r.b.l.length rcap)) 68::R):=hw.pm;refine i6 hs (hw:=hw) (hi:=In.hd) (ch:=hch2.mono (RowIn.le hle)) (ha:=(⟨_,rfl,hnv⟩:RowIn H2 r (aI r (.slice nad r.b.l.length ncap)))) (hl:=rfl) (h1:=rfl) (hb:=by omega) (h63:=by omega) (k:=?_);clear hs hw;intro a ad2 cap2 W hs hw hc2;rw [←fQ hri] at hs hw hc2;refine zA hs hw ?_;clear hs;intro a hs;have hw:=hw.sub (L':=Sx.Own 68 5 (.slice ad2 (ro.take (j+1)).length cap2) (ro.take (j+1)).length (ys ++ aI r (.slice nad r.b.l.length ncap))::Fz H2::aA g cur 68::aA p [.int .i64 t.ix,.pointer (some ⟨pf,0,none⟩),.slice (some ⟨g,0,none⟩) t.rows.length vcap] 201::aU H pf t.f::R) (List.Sublist.cons_cons _ (List.Sublist.cons _ (List.Sublist.cons_cons _ (List.Sublist.cons_cons _ (List.Sublist.cons_cons _ (List.Sublist.cons_cons _ (List.Sublist.cons _ (List.Sublist.refl _))))))));exact bS (j+1,ad2,cap2,ys ++ aI r (.slice nad r.b.l.length ncap),H2) hs hw ⟨hj',hH'.trans hle,hc2⟩ (by show mn - (j+1)<mn - j;omega) ⟨rfl,rfl,bU (by show IntKind.i64.wrap ((j:Int)+1)=((j+1:Nat):Int);rw [IntWalk.i64_in _ (by omega)];omega),rfl,trivial⟩
 ·have hj':j=mn:=by
   have:¬j<mn:=by simpa using hcc
   omega
  have htr:ro.take j=ro:=List.take_of_length_le (by omega);rw [htr] at hs hw hch2;refine zA hs hw ?_;clear hs;intro a hs;have hw:Has 0 w0 W (aA g cur 68::Sx.Own 68 5 (.slice oad ro.length ocap) ro.length ys::Fz H'::aA p [.int .i64 t.ix,.pointer (some ⟨pf,0,none⟩),.slice (some ⟨g,0,none⟩) t.rows.length vcap] 201::aU H pf t.f::R):=hw.pm;have hw:=hw.shut_own (k:=t.rows.length) (size:=5) hcur hcl0 hkc hcm;have hw:Has 0 w0 W (Sx.Own 68 5 (.slice oad ro.length ocap) ro.length ys::Fz H'::Sx.Own 68 5 (.slice (some ⟨g,0,none⟩) t.rows.length vcap) t.rows.length xs::aA p [.int .i64 t.ix,.pointer (some ⟨pf,0,none⟩),.slice (some ⟨g,0,none⟩) t.rows.length vcap] 201::aU H pf t.f::R):=hw.pm;obtain ⟨H2,hle,hw,hrd⟩:=hw.freeze_own;have hw:Has 0 w0 W (aU H pf t.f::aA p [.int .i64 t.ix,.pointer (some ⟨pf,0,none⟩),.slice (some ⟨g,0,none⟩) t.rows.length vcap] 201::Sx.Own 68 5 (.slice (some ⟨g,0,none⟩) t.rows.length vcap) t.rows.length xs::Fz H2::R):=hw.pm;have hle2:=hH'.trans hle;have hw:=fZ (j7 hw hle2).swap2 (hch.mono (RowIn.le hle2));exact rt1 hs rfl rfl ⟨_,H2,rfl,hle2,⟨ys,hrd,hch2.mono (RowIn.le hle)⟩,hw⟩
theorem aAu {l:List cC} (h:∀r∈l,(d6 r).length≤1300):(l.flatMap d6).length≤l.length*1300:=by
 induction l with
 |nil=>simp
 |cons r l ih=>
  have h1:=h r (by simp);have h2:=ih fun q hq=>h q (by simp [hq]);simp only [List.flatMap_cons,List.length_append,List.length_cons];omega
theorem aAv {r:cC} (h:dS r.b=true):(d6 r).length≤1300:=by
 have h1:(cR r.b).length≤1200:=(mK h).2.2.2.2;have h2:=Ph.putI_length_le ((cR r.b).length:Int);unfold d6 Ph.putT;rw [List.length_append];omega
theorem aAw (w0 W : World) (H : Fh) (p : Nat) (t : dU) (R : List Res) (hl : t.rows.length ≤ 200000) (hix : i64 t.ix) (hb : ∀ r ∈ t.rows, iK r.b ∧ dS r.b = true) (hH : (fr w0).le H) (hT : Tabs w0) (hw : Has 0 w0 W (aN H p t :: Fz H :: R)) :
    Calls Tryz.prog 69 ⟨[.pointer (some ⟨p, 0, none⟩)]⟩ W fun e W' => e = .returned (.string ⟨(jU t).toArray⟩) ∧ Has 0 w0 W' (aN H p t :: Fz H :: R) := by
  obtain ⟨pf, vad, vcap, xs, hch, hw⟩ := kZ hw;refine en Tryz.func69 Tryz.ntmps69 fun a hs => ?_;refine zC hs hw ?_; clear hs; intro a hs;have hpi := Ph.putI_length_le t.ix;have hpl := Ph.putI_length_le (t.rows.length : Int);have hw : Has 0 w0 _ (Sx.OwnB 5 (.slice none 0 0) [] :: aA p [.int .i64 t.ix, .pointer (some ⟨pf, 0, none⟩), .slice vad t.rows.length vcap] 201 :: aU H pf t.f :: Sx.Own 68 5 (.slice vad t.rows.length vcap) t.rows.length xs :: Fz H :: R) := (hw.nilOwn 5 1).pm;refine fV (σ := Option Addr × Nat) (V := fun u => [.pointer (some ⟨p, 0, none⟩), .pointer (some ⟨p, 0, none⟩), .pointer (some ⟨p, 0 + 0, none⟩), .int .i64 t.ix, (.slice (u 4).1 (Ph.putI t.ix).length (u 4).2), .pointer (some ⟨p, 0, none⟩), .pointer (some ⟨p, 0, none⟩), .pointer (some ⟨p, 0 + 2, none⟩), .slice vad t.rows.length vcap, .int .i64 (t.rows.length : Int), (.slice (u 10).1 ((Ph.putI t.ix) ++ (Ph.putI (t.rows.length : Int))).length (u 10).2), (.slice (u 11).1 ((Ph.putI t.ix) ++ (Ph.putI (t.rows.length : Int))).length (u 11).2)])
    (Rs := fun u D => (if D 11 then Sx.OwnB 5 (.slice (u 11).1 ((Ph.putI t.ix) ++ (Ph.putI (t.rows.length : Int))).length (u 11).2) ((Ph.putI t.ix) ++ (Ph.putI (t.rows.length : Int))) else if D 10 then Sx.OwnB 5 (.slice (u 10).1 ((Ph.putI t.ix) ++ (Ph.putI (t.rows.length : Int))).length (u 10).2) ((Ph.putI t.ix) ++ (Ph.putI (t.rows.length : Int))) else if D 4 then Sx.OwnB 5 (.slice (u 4).1 (Ph.putI t.ix).length (u 4).2) (Ph.putI t.ix) else Sx.OwnB 5 (.slice none 0 0) []) :: aA p [.int .i64 t.ix, .pointer (some ⟨pf, 0, none⟩), .slice vad t.rows.length vcap] 201 :: aU H pf t.f :: Sx.Own 68 5 (.slice vad t.rows.length vcap) t.rows.length xs :: Fz H :: R) (fun _ => (none, 0)) hs hw (hVu := ?vu_1) (ho := ⟨?_, ?_, ?_, ?_, ?c4_1, ?_, ?_, ?_, ?_, ?_, ?c10_1, ?c11_1, trivial⟩) (k := ?k_1)
  case vu_1 =>
    intro u u' j h;rcases j with _ | _ | _ | _ | _ | _ | _ | _ | _ | _ | _ | _ | j
    all_goals first | rfl | simp [h]
  case c4_1 =>
    intro u LD D a W hcl hi hp hs hw;have hA := Go.Sx.not_done hcl hi 10 (by kernel_rfl);have hB := Go.Sx.not_done hcl hA 11 (by kernel_rfl);simp only [hi, hA, hB, Bool.false_eq_true, if_false] at hw;refine aH hs (hc := eS w0 _ (.slice none 0 0) [] t.ix _ hix.1 hix.2 (by simp) hw) (k := ?_); rintro e0 W1 ⟨ad, cap, rfl, hw1⟩; refine ⟨_, rfl, ?_⟩; clear hs hw; intro a hs; have hw := hw1; clear hw1;rw [List.nil_append] at hs hw;refine zG hs ?_;refine Or.inr ⟨(ad, cap), hs, ?_⟩;show Has 0 w0 _ ((if (Nat.beq 11 4 || D 11) = true then _ else if (Nat.beq 10 4 || D 10) = true then _ else _) :: _);rw [hA, hB];exact hw
  case c10_1 =>
    intro u LD D a W hcl hi hp hs hw;have hB := Go.Sx.not_done hcl hi 11 (by kernel_rfl);have h4 := Go.Sx.done hp 4 (by kernel_rfl);simp only [hi, h4, hB, Bool.false_eq_true, if_false, if_true] at hw;refine aH hs (hc := eS w0 _ _ (Ph.putI t.ix) (t.rows.length : Int) _ (by omega) (by omega) (by omega) hw) (k := ?_); rintro e0 W1 ⟨ad, cap, rfl, hw1⟩; refine ⟨_, rfl, ?_⟩; clear hs hw; intro a hs; have hw := hw1; clear hw1;refine zG hs ?_;refine Or.inr ⟨(ad, cap), hs, ?_⟩;show Has 0 w0 _ ((if (Nat.beq 11 10 || D 11) = true then _ else _) :: _);rw [hB];exact hw
  case c11_1 =>
    intro u LD D a W hcl hi hp hs hw;have hA := Go.Sx.done hp 10 (by kernel_rfl);simp only [hi, hA, Bool.false_eq_true, if_false, if_true] at hw;refine zA hs hw ?_; clear hs; intro a hs;exact Or.inr ⟨u 10, hs, hw⟩
  case k_1 =>
    clear hs hw;intro u a W hs hw;replace hw : Has 0 w0 W (Sx.OwnB 5 (.slice (u 11).1 ((Ph.putI t.ix) ++ (Ph.putI (t.rows.length : Int))).length (u 11).2) ((Ph.putI t.ix) ++ (Ph.putI (t.rows.length : Int))) :: aA p [.int .i64 t.ix, .pointer (some ⟨pf, 0, none⟩), .slice vad t.rows.length vcap] 201 :: aU H pf t.f :: Sx.Own 68 5 (.slice vad t.rows.length vcap) t.rows.length xs :: Fz H :: R) := hw;replace hs : Slots a 37 [(3, (.slice (u 11).1 ((Ph.putI t.ix) ++ (Ph.putI (t.rows.length : Int))).length (u 11).2)), (0, .pointer (some ⟨p, 0, none⟩))] := hs.of ⟨rfl, rfl, trivial⟩;generalize (u 11).1 = ad1 at *;generalize (u 11).2 = cap1 at *;clear u;have ez : (Ph.putI t.ix) ++ (Ph.putI (t.rows.length : Int)) = (Ph.putI t.ix ++ (Ph.putI (t.rows.length : Int) ++ (t.rows.take 0).flatMap d6)) := by simp
    rw [ez] at hs hw;refine zC hs hw ?_; clear hs; intro a hs;refine bX (σ := Nat × Option Addr × Nat) (fun u => [(22, .slice vad t.rows.length vcap), (23, .int .i64 (t.rows.length : Int)), (24, .int .i64 (u.1 : Int)), (3, .slice u.2.1 (Ph.putI t.ix ++ (Ph.putI (t.rows.length : Int) ++ (t.rows.take u.1).flatMap d6)).length u.2.2)]) (fun u => Sx.OwnB 5 (.slice u.2.1 (Ph.putI t.ix ++ (Ph.putI (t.rows.length : Int) ++ (t.rows.take u.1).flatMap d6)).length u.2.2) (Ph.putI t.ix ++ (Ph.putI (t.rows.length : Int) ++ (t.rows.take u.1).flatMap d6)) :: aA p [.int .i64 t.ix, .pointer (some ⟨pf, 0, none⟩), .slice vad t.rows.length vcap] 201 :: aU H pf t.f :: Sx.Own 68 5 (.slice vad t.rows.length vcap) t.rows.length xs :: Fz H :: R) (fun u => u.1 ≤ t.rows.length) (fun u => t.rows.length - u.1) (0, ad1, cap1) (Nat.zero_le _) hs ⟨rfl, rfl, rfl, rfl, trivial⟩ hw ?_;clear hs hw;rintro ⟨j, oad, ocap⟩ a W hj hs hw;simp only at hj hs hw;refine zA hs hw ?_; clear hs; intro a hs;refine cI hs (kt := fun hcc => ?_) (kf := fun hcc => ?_)
    · have hj' : j < t.rows.length := by simpa using hcc
      obtain ⟨r, hri⟩ : ∃ o, t.rows[j]? = some o := ⟨t.rows[j], List.getElem?_eq_getElem hj'⟩
      obtain ⟨hbo, hmb⟩ := hb r (List.mem_of_getElem? hri);have hfl : ((t.rows.take j).flatMap d6).length ≤ (t.rows.take j).length * 1300 := aAu fun q hq => aAv (hb q (List.mem_of_mem_take hq)).2;have htl : (t.rows.take j).length ≤ 200000 := by rw [List.length_take]; omega
      have hacc : (Ph.putI t.ix ++ (Ph.putI (t.rows.length : Int) ++ (t.rows.take j).flatMap d6)).length ≤ 300000000 := by
        simp only [List.length_append];omega
      have hnext : (Ph.putI t.ix ++ (Ph.putI (t.rows.length : Int) ++ (t.rows.take j).flatMap d6)) ++ Ph.putT (cR r.b) = (Ph.putI t.ix ++ (Ph.putI (t.rows.length : Int) ++ (t.rows.take (j + 1)).flatMap d6)) := by
        rw [fQ hri];simp [d6]
      have he12 : (cR r.b).length ≤ 1200 := (mK hmb).2.2.2.2;obtain ⟨acc, hae⟩ : ∃ x, (Ph.putI t.ix ++ (Ph.putI (t.rows.length : Int) ++ (t.rows.take j).flatMap d6)) = x := ⟨_, rfl⟩
      rw [hae] at hs hw hacc hnext;refine zG hs ?_;refine gT hs (r := hw.rd_own (In.tl (In.tl (In.tl In.hd)))) (hk := RowIn.len) (ch := hch) (ho := hri) (hlen := rfl) (c := ?_); clear hs; intro a g off c hc hcl hpc hlt hs;obtain ⟨rv, rfl, hrv⟩ := hc;obtain ⟨rad, rcap, rfl⟩ := hrv.slice;refine eC hs (cs := aI r (.slice rad r.b.l.length rcap)) (hc := hpc) (hl := by rfl) (c := ?_); clear hs; intro a hs;clear hpc
      repeat (first | (refine sxv hs hw ?_; clear hs; intro a hs) | refine sxc hs ?_ | (refine sxa hs hw ?_; clear hs hw; intro a b W hw hs) | (refine sxs hs hw ?_; clear hs hw; intro W hs hw))
      refine aH hs (hc := pF r.b.c r.b.q r.b.l _ _ hbo.c hbo.q hbo.ops (hw.rdH (by repeat (first | exact In.hd | apply In.tl)) hrv) (hT.keep (hw.endF (by repeat (first | exact In.hd | apply In.tl)) hH))) (k := ?_); rintro e0 W1 ⟨ead, ecap, rfl, _, hw1⟩; refine ⟨_, rfl, ?_⟩; clear hs; intro a hs; replace hw := hw.call hw1; clear hw1;have hif : (if dO r.b.c r.b.q r.b.l = true then eA r.b.c r.b.q r.b.l else []) = cR r.b := by rw [if_pos (show dO r.b.c r.b.q r.b.l = true from hmb)]; rfl
      rw [hif] at hs hw;refine iF hs (r := hw.rd_own In.hd) (k := ?_); clear hs; intro a hs;obtain ⟨b5, q5⟩ : ∃ x : Nat, x = 0 := ⟨0, rfl⟩
      clear b5 q5;have hw := hw.d1;have hw := hw.swap2;refine aH hs (hc := o4 w0 _ _ acc ⟨(cR r.b).toArray⟩ _ (by show (cR r.b).length ≤ _; omega) (by omega) hw) (k := ?_); rintro e0 W1 ⟨ad, cap, rfl, hw1⟩; refine ⟨_, rfl, ?_⟩; clear hs hw; intro a hs; have hw := hw1; clear hw1;have hds : ((⟨(cR r.b).toArray⟩ : ByteArray).data.toList) = cR r.b := rfl;rw [hds, hnext] at hs hw;refine zA hs hw ?_; clear hs; intro a hs;have hw := hw.sub (L' := Sx.OwnB 5 (.slice ad (Ph.putI t.ix ++ (Ph.putI (t.rows.length : Int) ++ (t.rows.take (j + 1)).flatMap d6)).length cap) (Ph.putI t.ix ++ (Ph.putI (t.rows.length : Int) ++ (t.rows.take (j + 1)).flatMap d6)) :: aA p [.int .i64 t.ix, .pointer (some ⟨pf, 0, none⟩), .slice vad t.rows.length vcap] 201 :: aU H pf t.f :: Sx.Own 68 5 (.slice vad t.rows.length vcap) t.rows.length xs :: Fz H :: R) (List.Sublist.cons_cons _ (List.Sublist.cons _ (List.Sublist.refl _)));exact bS (j + 1, ad, cap) hs hw hj' (by show t.rows.length - (j + 1) < t.rows.length - j; omega) ⟨rfl, rfl, bU (by show IntKind.i64.wrap ((j : Int) + 1) = ((j + 1 : Nat) : Int); rw [IntWalk.i64_in _ (by omega)]; omega), rfl, trivial⟩
    · have hj' : j = t.rows.length := by have : ¬ j < t.rows.length := by simpa using hcc
                                         omega
      have hdt : (Ph.putI t.ix ++ (Ph.putI (t.rows.length : Int) ++ (t.rows.take j).flatMap d6)) = jU t := by
        rw [hj', List.take_length]; rfl
      rw [hdt] at hs hw;refine zA hs hw ?_; clear hs; intro a hs;refine iF hs (r := hw.rd_own In.hd) (k := ?_); clear hs; intro a hs;refine zA hs hw ?_; clear hs; intro a hs;have hw := hw.d1;exact rt1 hs rfl rfl ⟨rfl, fZ hw hch⟩
  all_goals
    intro u LD D a W hcl hi hp hs hw;refine zA hs hw ?_; clear hs; intro a hs;exact Or.inl ⟨hs, hw⟩
end Go.Proofs.YtgpbngfehfbndaaGreatDoor.Sw
namespace Go.Sx
open Go.RowKit
theorem Has.rdM {G b cap:Nat} {w W W0:World} {R:List Res} {E:TypeId} {l:List UInt8} {ext:List Value} (h:Has G w W R) (i:In (eV b (bys l ++ ext) E) R) (r0:RdB W0 (.slice (some ⟨b,0,none⟩) l.length cap) l):RdB W (.slice (some ⟨b,0,none⟩) l.length cap) l:=by
 obtain ⟨h1,ad,c2,e,h3,h4,h5⟩:=r0;injection e with e1 e2 e3;subst e1 e3;refine ⟨h1,_,_,rfl,h3,h4,.inr ⟨b,0,rfl,(h.blockM i).2.2,fun j u hj=>?_⟩⟩;rw [aAr (h.blockM i).1,Nat.zero_add];have hj2:=(List.getElem?_eq_some_iff.1 hj).1;rw [List.getElem?_append_left hj2];exact hj
end Go.Sx
namespace Go.Proofs.YtgpbngfehfbndaaGreatDoor.Sw
open Go.RowKit Go.Sx
theorem mO {l:List UInt8} (h:kY l=none):eU l=none:=by unfold eU;rw [h]
theorem aGC (m : Nat) (f : dZ) (rs : List cC) (s : List UInt8) : j8 (m + 1) f rs s = match (Ph.getT s).2.2 == 0, decode (Ph.getT s).1 with
    | true, some p => (match (next f (lT p)).2.2 with
       | true => j8 m (next f (lT p)).1 (rs ++ [(next f (lT p)).2.1]) (s.drop (Ph.getT s).2.1)
       | false => none)
    | _, _ => none := rfl
theorem aAx (w0 W:World) (H:Fh) (s:ByteArray) (R:List Res) (hl:s.size≤200000) (hH:(fr w0).le H) (hT:Tabs w0) (hw:Has 0 w0 W (Fz H::R)):
  Calls Tryz.prog 91 ⟨[.string s]⟩ W fun e W'=>∃H',H.le H'∧((eU s.data.toList=none∧e= .returned (.tuple ⟨[.pointer none,.int .i64 1]⟩)∧Has 0 w0 W' (Fz H'::R))∨∃t p,eU s.data.toList=some t∧e= .returned (.tuple ⟨[.pointer (some ⟨p,0,none⟩),.int .i64 0]⟩)∧Has 0 w0 W' (aN H' p t::Fz H'::R)):=by
 refine en Tryz.func91 Tryz.ntmps91 fun a hs=>?_;refine zA hs hw ?_;clear hs;intro a hs;refine nS (s:=s) hs hw (by omega) (c:=?_);clear hs hw;intro a bb cap0 ext W hw hr0 hs;have hll:s.data.toList.length≤200000:=by rw [Array.length_toList];exact hl
 generalize s.data.toList=l at *;refine zA hs hw ?_;clear hs;intro a hs;refine aH hs (hc:=mN _ _ l (hw.rdM In.hd hr0)) (k:=?_);rintro e0 W1 ⟨rfl,rfl⟩;refine ⟨_,rfl,?_⟩;clear hs;intro a hs;have hk1:=Ph.getI_le l;obtain ⟨⟨ix,k,err⟩,hg⟩:∃x,Ph.getI l=x:=⟨_,rfl⟩
 rw [hg] at hs hk1;simp only at hs hk1;refine zA hs hw ?_;clear hs;intro a hs;cases c1:(err !=0) with
 |true=>
  rw [c1] at hs;have he:err≠0:=by simpa using c1
  have hX:eU l=none:=mO (by unfold kY;rw [hg,if_neg (fun h=>he h.1)]);refine zA hs hw ?_;clear hs;intro a hs;exact rt2 hs rfl rfl rfl ⟨H,Fh.le.refl _,.inl ⟨hX,rfl,hw.d1⟩⟩
 |false=>
 rw [c1] at hs;have he1:err=0:=by simpa using c1
 refine zA hs hw ?_;clear hs;intro a hs;cases c2:decide (ix<0) with
 |true=>
  rw [c2] at hs;have g2:=of_decide_eq_true c2;have hX:eU l=none:=mO (by unfold kY;rw [hg,if_neg (fun h=>by have:=h.2.1;simp only at this;omega)]);refine zA hs hw ?_;clear hs;intro a hs;exact rt2 hs rfl rfl rfl ⟨H,Fh.le.refl _,.inl ⟨hX,rfl,hw.d1⟩⟩
 |false=>
 rw [c2] at hs;have g2:=of_decide_eq_false c2;refine zA hs hw ?_;clear hs;intro a hs;cases c3:decide (ix > 1099511627776) with
 |true=>
  rw [c3] at hs;have g3:=of_decide_eq_true c3;have hX:eU l=none:=mO (by unfold kY;rw [hg,if_neg (fun h=>by have:=h.2.2;simp only at this;omega)]);refine zA hs hw ?_;clear hs;intro a hs;exact rt2 hs rfl rfl rfl ⟨H,Fh.le.refl _,.inl ⟨hX,rfl,hw.d1⟩⟩
 |false=>
 rw [c3] at hs;have g3:=of_decide_eq_false c3;refine zA hs hw ?_;clear hs;intro a hs;refine o3 (hs:=hs) (r:=hw.rdM In.hd hr0) (h0:=by omega) (h1:=by omega) (c:=?_);clear hs;intro a ad1 cap1 r1 hs;rw [Int.toNat_natCast] at hs r1;refine aH hs (hc:=mN _ _ (l.drop k) r1) (k:=?_);rintro e0 W1 ⟨rfl,rfl⟩;refine ⟨_,rfl,?_⟩;clear hs r1;intro a hs;have hk2:=Ph.getI_le (l.drop k);obtain ⟨⟨n,m,err2⟩,hg2⟩:∃x,Ph.getI (l.drop k)=x:=⟨_,rfl⟩
 rw [hg2] at hs hk2;rw [List.length_drop] at hk2;simp only at hs hk2;have hhd:kY l=if err2=0∧0≤n∧n≤ix∧n≤l.length then some (ix,n.toNat,l.drop (k+m)) else none:=by
  unfold kY;rw [hg];simp only;rw [hg2,if_pos ⟨he1,by omega,by omega⟩]
 refine zA hs hw ?_;clear hs;intro a hs;cases c4:(err2 !=0) with
 |true=>
  rw [c4] at hs;have he:err2≠0:=by simpa using c4
  have hX:eU l=none:=mO (by rw [hhd,if_neg (fun h=>he h.1)]);refine zA hs hw ?_;clear hs;intro a hs;exact rt2 hs rfl rfl rfl ⟨H,Fh.le.refl _,.inl ⟨hX,rfl,hw.d1⟩⟩
 |false=>
 rw [c4] at hs;have he2:err2=0:=by simpa using c4
 refine zA hs hw ?_;clear hs;intro a hs;cases c5:decide (n<0) with
 |true=>
  rw [c5] at hs;have g5:=of_decide_eq_true c5;have hX:eU l=none:=mO (by rw [hhd,if_neg (fun h=>by have:=h.2.1;omega)]);refine zA hs hw ?_;clear hs;intro a hs;exact rt2 hs rfl rfl rfl ⟨H,Fh.le.refl _,.inl ⟨hX,rfl,hw.d1⟩⟩
 |false=>
 rw [c5] at hs;have g5:=of_decide_eq_false c5;refine zA hs hw ?_;clear hs;intro a hs;cases c6:decide (n > ix) with
 |true=>
  rw [c6] at hs;have g6:=of_decide_eq_true c6;have hX:eU l=none:=mO (by rw [hhd,if_neg (fun h=>by have:=h.2.2.1;omega)]);refine zA hs hw ?_;clear hs;intro a hs;exact rt2 hs rfl rfl rfl ⟨H,Fh.le.refl _,.inl ⟨hX,rfl,hw.d1⟩⟩
 |false=>
 rw [c6] at hs;have g6:=of_decide_eq_false c6;refine zA hs hw ?_;clear hs;intro a hs;cases c7:decide (n > (l.length:Int)) with
 |true=>
  rw [c7] at hs;have g7:=of_decide_eq_true c7;have hX:eU l=none:=mO (by rw [hhd,if_neg (fun h=>by have:=h.2.2.2;omega)]);refine zA hs hw ?_;clear hs;intro a hs;exact rt2 hs rfl rfl rfl ⟨H,Fh.le.refl _,.inl ⟨hX,rfl,hw.d1⟩⟩
 |false=>
 rw [c7] at hs;have g7:=of_decide_eq_false c7;obtain ⟨nn,rfl⟩:=Int.eq_ofNat_of_zero_le (show 0≤n by omega);rw [if_pos ⟨he2,by omega,by omega,by omega⟩,Int.toNat_natCast] at hhd;have hload:eU l=match j8 nn fY [] (l.drop (k+m)) with
   |none=>none
   |some (f,rs)=>if jU ⟨ix,f,rs⟩=l then some ⟨ix,f,rs⟩ else none:=by
  unfold eU;rw [hhd];rfl
 refine zG hs ?_;refine aH hs (hc:=aAs w0 _ H _ hw) (k:=?_);rintro e0 W1 ⟨p,rfl,hw1⟩;refine ⟨_,rfl,?_⟩;clear hs hw;intro a hs;have hw:=hw1;clear hw1;refine zE hs hw ?_;clear hs;intro a hs;have ea:IntKind.i64.wrap ((k:Int)+(m:Int))=((k+m:Nat):Int):=by rw [IntWalk.i64_in _ (by omega)];omega
 rw [ea] at hs;refine sq ?_;refine fD (M:=fun a W=>∃(t:dU) (H':Fh),H.le H'∧t.ix=0∧j8 nn fY [] (l.drop (k+m))=some (t.f,t.rows)∧t.rows.length=nn∧(∀r∈t.rows,iK r.b∧dS r.b=true)∧Slots a 122 [(4,.slice (some ⟨bb,0,none⟩) l.length cap0),(5,.int .i64 ix),(10,.pointer (some ⟨p,0,none⟩))]∧Has 0 w0 W (aN H' p t::Fz H'::eV bb (bys l ++ ext) 5::R)) ?_ ?_
 ·refine zA hs hw ?_;clear hs;intro a hs;refine bX (σ:=Nat×dU×Nat×Fh) (fun u=>[(4,.slice (some ⟨bb,0,none⟩) l.length cap0),(5,.int .i64 ix),(10,.pointer (some ⟨p,0,none⟩)),(11,.int .i64 (u.2.2.1:Int)),(65,.int .i64 (nn:Int)),(66,.int .i64 (u.1:Int))]) (fun u=>aN u.2.2.2 p u.2.1::Fz u.2.2.2::eV bb (bys l ++ ext) 5::R) (fun u=>u.1≤nn∧u.2.1.ix=0∧u.2.1.rows.length=u.1∧u.2.2.1≤l.length∧H.le u.2.2.2∧j8 (nn - u.1) u.2.1.f u.2.1.rows (l.drop u.2.2.1)=j8 nn fY [] (l.drop (k+m))∧∀r∈u.2.1.rows,iK r.b∧dS r.b=true) (fun u=>nn - u.1) (0,emptyT,k+m,H) ⟨Nat.zero_le _,rfl,rfl,by show k+m≤l.length;omega,Fh.le.refl _,rfl,by simp [emptyT]⟩ hs ⟨rfl,rfl,rfl,rfl,rfl,rfl,trivial⟩ (hw.pm) ?_;clear hs hw;rintro ⟨j,t,at_,H0⟩ a W ⟨hj,hix,hrl,hat,hH0,hgo,hbk⟩ hs hw;simp only at hj hix hrl hat hH0 hgo hbk hs hw;refine zA hs hw ?_;clear hs;intro a hs;refine cI hs (kt:=fun hcc=>?_) (kf:=fun hcc=>?_)
  ·have hj':j<nn:=by simpa using hcc
   rw [show nn - j=(nn - (j+1))+1 by omega,aGC] at hgo;refine zA hs hw ?_;clear hs;intro a hs;refine o3 (hs:=hs) (r:=hw.rdM (In.tl (In.tl In.hd)) hr0) (h0:=by omega) (h1:=by omega) (c:=?_);clear hs;intro a ad2 cap2 r2 hs;rw [Int.toNat_natCast] at hs r2;refine aH hs (hc:=sE _ _ (l.drop at_) r2) (k:=?_);rintro e0 W1 ⟨rfl,rfl⟩;refine ⟨_,rfl,?_⟩;clear hs r2;intro a hs;have hk3:=pK (l.drop at_);have hts:=sF (l.drop at_);obtain ⟨⟨x,kx,err3⟩,hg3⟩:∃x,Ph.getT (l.drop at_)=x:=⟨_,rfl⟩
   rw [hg3] at hs hk3 hgo hts;rw [List.length_drop] at hk3 hts;simp only at hs hk3 hgo hts;refine zA hs hw ?_;clear hs;intro a hs;cases c8:(err3 !=0) with
   |true=>
    rw [c8] at hs;have he:(err3 == 0)=false:=by simpa using c8
    rw [he] at hgo;have hX:eU l=none:=by rw [hload,←hgo]
    refine zA hs hw ?_;clear hs;intro a hs;exact rt2 hs rfl rfl rfl ⟨H0,hH0,.inl ⟨hX,rfl,hw.sub (List.Sublist.cons _ (List.Sublist.cons_cons _ (List.Sublist.cons _ (List.Sublist.refl _))))⟩⟩
   |false=>
   rw [c8] at hs;have he3:(err3 == 0)=true:=by simpa using c8
   rw [he3] at hgo;refine zA hs hw ?_;clear hs;intro a hs;have ea2:IntKind.i64.wrap ((at_:Int)+(kx:Int))=((at_+kx:Nat):Int):=by rw [IntWalk.i64_in _ (by omega)];omega
   rw [ea2] at hs;refine nS (s:=⟨x.toArray⟩) hs hw (by show x.length≤_;have:x.length≤l.length - at_:=hts;omega) (c:=?_);clear hs hw;intro a bx0 cap3 ext3 W hw hr3 hs;have hw:=hw.d1;have hxl:x.length≤1000000:=by have:x.length≤l.length - at_:=hts;omega
   obtain ⟨⟨⟨c,q,ol⟩,err⟩,hdec⟩:∃y,fB x=y:=⟨_,rfl⟩
   refine aH hs (hc:=wM x c q ol err hdec _ _ hxl hr3 (hT.keep (hw.endF (In.tl In.hd) (hH.trans hH0)))) (k:=?_);rintro e0 W1 ⟨dad,dcap,rfl,hw1⟩;refine ⟨_,rfl,?_⟩;clear hs;intro a hs;replace hw:=hw.call hw1;clear hw1;have hw:Has 0 w0 _ (Sx.Own 55 9 (.slice dad ol.length dcap) ol.length (ol.flatMap bZ)::Fz H0::aN H0 p t::eV bb (bys l ++ ext) 5::R):=hw.pm;obtain ⟨H1,hle01,hw,hbl⟩:=hw.freeze_own;have hH1:=hH.trans (hH0.trans hle01);have hw:=(wN hw.swap2 hle01)
   repeat (first|(refine sxv hs hw ?_;clear hs;intro a hs)|refine sxc hs ?_|(refine sxa hs hw ?_;clear hs hw;intro a b W hw hs)|(refine sxs hs hw ?_;clear hs hw;intro W hs hw))
   obtain ⟨b15,q15⟩:=nm1 hw;subst q15;have hw:Has 0 w0 _ (aN H1 p t::Fz H1::eV bb (bys l ++ ext) 5::aA b15 [.int .i64 c,.int .i64 q,.slice dad ol.length dcap] 66::R):=hw.pm;cases hdo:decode x with
   |none=>
    have he:err=1:=by unfold fB at hdec;rw [hdo] at hdec;simp at hdec;exact hdec.2.symm
    subst he;rw [hdo] at hgo;have hX:eU l=none:=by rw [hload,←hgo]
    refine zA hs hw ?_;clear hs;intro a hs;exact rt2 hs rfl rfl rfl ⟨H1,hH0.trans hle01,.inl ⟨hX,rfl,hw.sub (List.Sublist.cons _ (List.Sublist.cons_cons _ (List.Sublist.cons _ (List.Sublist.cons _ (List.Sublist.refl _)))))⟩⟩
   |some pd=>
   have hpe:pd=(c,q,ol)∧err=0:=by unfold fB at hdec;rw [hdo] at hdec;simp at hdec;exact ⟨hdec.1,hdec.2.symm⟩
   obtain ⟨rfl,rfl⟩:=hpe;have hdk:=aAn hxl hdo;rw [hdo] at hgo;obtain ⟨bt,hbt⟩:∃b:cT,b=⟨c,q,ol⟩:=⟨_,rfl⟩
   have hbo:iK bt:=by rw [hbt];exact ⟨hdk.1,hdk.2.1,hdk.2.2.2⟩
   have hbe:lT (c,q,ol)=bt:=by rw [hbt];rfl
   simp only at hgo;rw [hbe] at hgo;obtain ⟨rfl,rfl,rfl⟩:c=bt.c∧q=bt.q∧ol=bt.l:=by rw [hbt];exact ⟨rfl,rfl,rfl⟩
   clear hbt hdo hdec hdk hbe;obtain ⟨bad,hbad⟩:∃x,x=dad:=⟨_,rfl⟩
   obtain ⟨bcap,hbcap⟩:∃x,x=dcap:=⟨_,rfl⟩
   subst hbad hbcap;obtain ⟨N,hN⟩:∃N,next t.f bt=N:=⟨_,rfl⟩
   rw [hN] at hgo;have hbl:cG H1 (.slice bad bt.l.length bcap) bt.l:=hbl;obtain ⟨pf,vad,vcap,xs,hch,hw⟩:=kZ hw;rw [hix] at hw;refine zG hs ?_;have hw:Has 0 w0 _ (Fz H1::aU H1 pf t.f::bT::bT::bT::aA p [.int .i64 0,.pointer (some ⟨pf,0,none⟩),.slice vad t.rows.length vcap] 201::aA b15 (aK bt (.slice bad bt.l.length bcap)) 66::Sx.Own 68 5 (.slice vad t.rows.length vcap) t.rows.length xs::eV bb (bys l ++ ext) 5::R):=(hw.free.free.free).pm;refine fV (σ:=Value×Fh×Nat) (V:=fun u=>[.pointer (some ⟨p,0,none⟩),.pointer (some ⟨p,0,none⟩),.pointer (some ⟨p,0+1,none⟩),.pointer (some ⟨pf,0,none⟩),.agg ⟨aK bt (.slice bad bt.l.length bcap)⟩,.tuple ⟨[.agg ⟨aI N.2.1 (u 5).1⟩,.bool N.2.2]⟩,.tuple ⟨[.agg ⟨aI N.2.1 (u 6).1⟩,.bool N.2.2]⟩,.agg ⟨aI N.2.1 (u 7).1⟩,.bool N.2.2,.pointer (some ⟨(u 9).2.2,0,none⟩),.bool true,.bool N.2.2])
    (Rs:=fun u D=>(if D 5 then FzF (u 5).2.1 (H1.le (u 5).2.1∧cG (u 5).2.1 (u 5).1 N.2.1.b.l) else Fz H1)::(if D 5 then aU (u 5).2.1 pf N.1 else aU H1 pf t.f)::(if D 9 then aA (u 9).2.2 (if D 10 then aI N.2.1 (u 5).1 else zrc) 68 else bT)::(if D 6 then bQ (u 6=u 5) else bT)::(if D 7 then bQ (u 7=u 6) else bT)::aA p [.int .i64 0,.pointer (some ⟨pf,0,none⟩),.slice vad t.rows.length vcap] 201::aA b15 (aK bt (.slice bad bt.l.length bcap)) 66::Sx.Own 68 5 (.slice vad t.rows.length vcap) t.rows.length xs::eV bb (bys l ++ ext) 5::R) (fun _=>(.nilIface,H1,0)) hs hw (hVu:=?vu_2) (ho:=⟨?_,?_,?_,?_,?_,?c5_2,?c6_2,?c7_2,?_,?c9_2,?c10_2,?_,trivial⟩) (k:=?k_2)
   case vu_2=>
    intro u u' j h;rcases j with _|_|_|_|_|_|_|_|_|_|_|_|j
    all_goals first|rfl|simp [h]
   case c5_2=>
    intro u LD D a W hcl hi hp hs hw;have h6:=Go.Sx.not_done hcl hi 6 (by kernel_rfl);have h7:=Go.Sx.not_done hcl h6 7 (by kernel_rfl);have h10:=Go.Sx.not_done hcl h7 10 (by kernel_rfl);simp only [hi,h6,h7,h10,Bool.false_eq_true,if_false] at hw;have hw:=hw.swap2;refine aH hs (hc:=wG w0 _ H1 pf t.f bt _ _ hbo hbl hH1 hT hw) (k:=?_);rw [hN];rintro e0 W1 ⟨sv',H2,rfl,hle,hsv,hw1⟩;refine ⟨_,rfl,?_⟩;clear hs hw;intro a hs;have hw:=hw1;clear hw1;refine zG hs ?_;refine Or.inr ⟨(sv',H2,0),hs,?_⟩;have hw:=(hw.swap2).fzf (q:=H1.le H2∧cG H2 sv' N.2.1.b.l) ⟨hle,hsv⟩;show Has 0 w0 _ (_::_::(if D 9 then aA (u 9).2.2 (if (Nat.beq 10 5 || D 10)=true then _ else _) _ else bT)::(if (Nat.beq 6 5 || D 6)=true then _ else _)::(if (Nat.beq 7 5 || D 7)=true then _ else _)::_);rw [h6,h7,h10];exact hw
   case c6_2=>
    intro u LD D a W hcl hi hp hs hw;have h7:=Go.Sx.not_done hcl hi 7 (by kernel_rfl);simp only [hi,h7,Bool.false_eq_true,if_false] at hw;refine zA hs hw ?_;clear hs;intro a hs;refine Or.inr ⟨u 5,hs,?_⟩;show Has 0 w0 _ (_::_::_::bQ (u 5=u 5)::(if (Nat.beq 7 6 || D 7)=true then _ else _)::_);rw [h7];exact (hw.fact rfl).fill (Upd.tl (Upd.tl (Upd.tl Upd.hd)))
   case c7_2=>
    intro u LD D a W hcl hi hp hs hw;simp only [hi,Bool.false_eq_true,if_false] at hw;refine zA hs hw ?_;clear hs;intro a hs;refine Or.inr ⟨u 6,hs,?_⟩;show Has 0 w0 _ (_::_::_::_::bQ (u 6=u 6)::_);exact (hw.fact rfl).fill (Upd.tl (Upd.tl (Upd.tl (Upd.tl Upd.hd))))
   case c9_2=>
    intro u LD D a W hcl hi hp hs hw;have h10:=Go.Sx.not_done hcl hi 10 (by kernel_rfl);simp only [hi,Bool.false_eq_true,if_false] at hw
    repeat (first|(refine sxv hs hw ?_;clear hs;intro a hs)|refine sxc hs ?_|(refine sxa hs hw ?_;clear hs hw;intro a b W hw hs)|(refine sxs hs hw ?_;clear hs hw;intro W hs hw))
    refine Or.inr ⟨(.nilIface,H1,_),hs,?_⟩;show Has 0 w0 _ (_::_::aA _ (if (Nat.beq 10 9 || D 10)=true then _ else _) _::_);rw [h10];exact hw.fill (Upd.tl (Upd.tl Upd.hd))
   case c10_2=>
    intro u LD D a W hcl hi hp hs hw;have h7:=Go.Sx.done hp 7 (by kernel_rfl);have h9:=Go.Sx.done hp 9 (by kernel_rfl);have h6:=Go.Sx.done (hcl 7 _ rfl h7) 6 (by kernel_rfl);have h5:=Go.Sx.done (hcl 6 _ rfl h6) 5 (by kernel_rfl);have e1:(if D 7=true then bQ (u 7=u 6) else bT)=bQ (u 7=u 6):=by rw [h7];rfl
    have e2:(if D 6=true then bQ (u 6=u 5) else bT)=bQ (u 6=u 5):=by rw [h6];rfl
    have g7:u 7=u 5:=by
     have hw2:=hw;simp only [e1,e2] at hw2;exact (hw2.told (In.tl (In.tl (In.tl (In.tl In.hd))))).trans (hw2.told (In.tl (In.tl (In.tl In.hd))))
    simp only [hi,h5,h9,Bool.false_eq_true,if_false,if_true] at hw;obtain ⟨⟨_,hsv⟩,_⟩:=hw.unfzf;obtain ⟨tad,tcap,e13⟩:=hsv.slice;refine d7 hs (hw:=hw) (vs:=aI N.2.1 (u 7).1) (h1:=by rw [g7,e13];rfl) (k:=?_);clear hs hw;intro W hs hw;rw [show (u 7).1=(u 5).1 from by rw [g7]] at hw;refine zG hs ?_;refine Or.inl ⟨hs,?_⟩;show Has 0 w0 _ ((if (Nat.beq 5 10 || D 5)=true then _ else _)::(if (Nat.beq 5 10 || D 5)=true then _ else _)::(if (Nat.beq 9 10 || D 9)=true then _ else _)::_);rw [h5,h9];exact hw
   case k_2=>
    clear hs hw;intro u a W hs hw;replace hw:Has 0 w0 W (FzF (u 5).2.1 (H1.le (u 5).2.1∧cG (u 5).2.1 (u 5).1 N.2.1.b.l)::aU (u 5).2.1 pf N.1::aA (u 9).2.2 (aI N.2.1 (u 5).1) 68::bQ (u 6=u 5)::bQ (u 7=u 6)::aA p [.int .i64 0,.pointer (some ⟨pf,0,none⟩),.slice vad t.rows.length vcap] 201::aA b15 (aK bt (.slice bad bt.l.length bcap)) 66::Sx.Own 68 5 (.slice vad t.rows.length vcap) t.rows.length xs::eV bb (bys l ++ ext) 5::R):=hw;replace hw:=hw.sub (L':=FzF (u 5).2.1 (H1.le (u 5).2.1∧cG (u 5).2.1 (u 5).1 N.2.1.b.l)::aU (u 5).2.1 pf N.1::aA (u 9).2.2 (aI N.2.1 (u 5).1) 68::aA p [.int .i64 0,.pointer (some ⟨pf,0,none⟩),.slice vad t.rows.length vcap] 201::aA b15 (aK bt (.slice bad bt.l.length bcap)) 66::Sx.Own 68 5 (.slice vad t.rows.length vcap) t.rows.length xs::eV bb (bys l ++ ext) 5::R) (List.Sublist.cons_cons _ (List.Sublist.cons_cons _ (List.Sublist.cons_cons _ (List.Sublist.cons _ (List.Sublist.cons _ (List.Sublist.refl _))))));replace hs:Slots a 122 [(4,.slice (some ⟨bb,0,none⟩) l.length cap0),(5,.int .i64 ix),(10,.pointer (some ⟨p,0,none⟩)),(11,.int .i64 ((at_+kx:Nat):Int)),(65,.int .i64 (nn:Int)),(66,.int .i64 (j:Int)),(16,.pointer (some ⟨(u 9).2.2,0,none⟩)),(17,.bool N.2.2)]:=hs.ot;generalize (u 9).2.2=b8 at *;generalize (u 5).2.1=H2 at *;generalize (u 5).1=sv2 at *;clear u;obtain ⟨⟨hle2,hsv⟩,hw⟩:=hw.unfzf;obtain ⟨xad,xcap,rfl⟩:=hsv.slice;replace hch:=hch.mono (RowIn.le hle2);have hrl2:t.rows.length≤200000:=by omega
    cases hok:N.2.2 with
    |false=>
     rw [hok] at hs hgo;have hX:eU l=none:=by rw [hload,←hgo]
     refine zA hs hw ?_;clear hs;intro a hs;have hw:=hw.sub (L':=Fz H2::R) (List.Sublist.cons_cons _ (List.Sublist.cons _ (List.Sublist.cons _ (List.Sublist.cons _ (List.Sublist.cons _ (List.Sublist.cons _ (List.Sublist.cons _ (List.Sublist.refl _))))))));exact rt2 hs rfl rfl rfl ⟨H2,(hH0.trans hle01).trans hle2,.inl ⟨hX,rfl,hw⟩⟩
    |true=>
     rw [hok] at hs hgo;simp only at hgo;have hw:Has 0 w0 W (aA p [.int .i64 0,.pointer (some ⟨pf,0,none⟩),.slice vad t.rows.length vcap] 201::Fz H2::bT::Sx.Own 68 5 (.slice vad t.rows.length vcap) t.rows.length xs::aA b8 (aI N.2.1 (.slice xad N.2.1.b.l.length xcap)) 68::aU H2 pf N.1::aA b15 (aK bt (.slice bad bt.l.length bcap)) 66::eV bb (bys l ++ ext) 5::R):=(hw.free).pm;refine zA hs hw ?_;clear hs;intro a hs;refine fV (σ:=Value×Fh×Nat×Option Addr) (V:=fun u=>[.pointer (some ⟨p,0,none⟩),.pointer (some ⟨p,0,none⟩),.pointer (some ⟨p,0,none⟩),.pointer (some ⟨p,0+2,none⟩),.slice vad t.rows.length vcap,.agg ⟨aI N.2.1 (.slice xad N.2.1.b.l.length xcap)⟩,.slice (some ⟨(u 6).2.2.1,0,none⟩) 1 1,.slice (u 7).2.2.2 (t.rows ++ [N.2.1]).length (u 7).2.2.1,.pointer (some ⟨p,0,none⟩),.pointer (some ⟨p,0+2,none⟩),.bool true])
      (Rs:=fun u D=>aA p [.int .i64 0,.pointer (some ⟨pf,0,none⟩),(if D 10 then .slice (u 7).2.2.2 (t.rows ++ [N.2.1]).length (u 7).2.2.1 else .slice vad t.rows.length vcap)] 201::Fz H2::(if D 6 then aA (u 6).2.2.1 (aI N.2.1 (.slice xad N.2.1.b.l.length xcap)) 68 else bT)::(if D 7 then Sx.Own 68 5 (.slice (u 7).2.2.2 (t.rows ++ [N.2.1]).length (u 7).2.2.1) (t.rows ++ [N.2.1]).length (xs ++ aI N.2.1 (.slice xad N.2.1.b.l.length xcap)) else Sx.Own 68 5 (.slice vad t.rows.length vcap) t.rows.length xs)::aA b8 (aI N.2.1 (.slice xad N.2.1.b.l.length xcap)) 68::aU H2 pf N.1::aA b15 (aK bt (.slice bad bt.l.length bcap)) 66::eV bb (bys l ++ ext) 5::R) (fun _=>(.nilIface,H2,0,none)) hs hw (hVu:=?vu_1) (ho:=⟨?_,?_,?_,?_,?c4_1,?_,?c6_1,?c7_1,?_,?_,?c10_1,trivial⟩) (k:=?k_1)
     case vu_1=>
      intro u u' j h;rcases j with _|_|_|_|_|_|_|_|_|_|_|j
      all_goals first|rfl|simp [h]
     case c4_1=>
      intro u LD D a W hcl hi hp hs hw;have hA:=Go.Sx.not_done hcl hi 7 (by kernel_rfl);have hS:=Go.Sx.not_done hcl hA 10 (by kernel_rfl);have hw0:=hw;simp only [hS,Bool.false_eq_true,if_false] at hw;refine zA hs hw ?_;clear hs;intro a hs;exact Or.inl ⟨hs,hw0⟩
     case c6_1=>
      intro u LD D a W hcl hi hp hs hw;have hB:=hi;have hA:=Go.Sx.not_done hcl hB 7 (by kernel_rfl);have hS:=Go.Sx.not_done hcl hA 10 (by kernel_rfl);simp only [hi,hA,hS,Bool.false_eq_true,if_false] at hw
      repeat (first|(refine sxv hs hw ?_;clear hs;intro a hs)|refine sxc hs ?_|(refine sxa hs hw ?_;clear hs hw;intro a b W hw hs)|(refine sxs hs hw ?_;clear hs hw;intro W hs hw))
      refine Or.inr ⟨(.nilIface,H2,_,none),hs,?_⟩;show Has 0 w0 _ (aA p [_,_,(if (Nat.beq 10 6 || D 10)=true then _ else _)] _::_::_::(if (Nat.beq 7 6 || D 7)=true then _ else _)::_);rw [hA,hS];exact hw.fill (Upd.tl (Upd.tl Upd.hd))
     case c7_1=>
      intro u LD D a W hcl hi hp hs hw;have hB:=Go.Sx.done hp 6 (by kernel_rfl);have hS:=Go.Sx.not_done hcl hi 10 (by kernel_rfl);simp only [hi,hB,hS,Bool.false_eq_true,if_false,if_true] at hw;have hw:Has 0 w0 W (Fz H2::Sx.Own 68 5 (.slice vad t.rows.length vcap) t.rows.length xs::aA p [.int .i64 0,.pointer (some ⟨pf,0,none⟩),.slice vad t.rows.length vcap] 201::aA (u 6).2.2.1 (aI N.2.1 (.slice xad N.2.1.b.l.length xcap)) 68::aA b8 (aI N.2.1 (.slice xad N.2.1.b.l.length xcap)) 68::aU H2 pf N.1::aA b15 (aK bt (.slice bad bt.l.length bcap)) 66::eV bb (bys l ++ ext) 5::R):=hw.pm;have hw:Has 0 w0 W (Sx.Own 68 5 (.slice vad t.rows.length vcap) t.rows.length xs::Fz H2::aA p [.int .i64 0,.pointer (some ⟨pf,0,none⟩),.slice vad t.rows.length vcap] 201::aA (u 6).2.2.1 (aI N.2.1 (.slice xad N.2.1.b.l.length xcap)) 68::aA b8 (aI N.2.1 (.slice xad N.2.1.b.l.length xcap)) 68::aU H2 pf N.1::aA b15 (aK bt (.slice bad bt.l.length bcap)) 66::eV bb (bys l ++ ext) 5::R):=hw.swap2;have hone:=RowIn.ones (H:=H2) N.2.1 (aI N.2.1 (.slice xad N.2.1.b.l.length xcap)) ⟨_,rfl,hsv⟩;refine i6 hs (hw:=hw) (hi:=In.tl (In.tl In.hd)) (ch:=hch) (ha:=(⟨_,rfl,hsv⟩:RowIn H2 N.2.1 (aI N.2.1 (.slice xad N.2.1.b.l.length xcap)))) (hl:=rfl) (h1:=by rw [List.all_eq_true];exact hone) (hb:=by omega) (h63:=by omega) (k:=?_);clear hs hw;intro a ad cap W hs hw hc2;refine zG hs ?_;refine Or.inr ⟨(.nilIface,H2,cap,ad),hs,?_⟩;show Has 0 w0 _ (aA p [_,_,(if (Nat.beq 10 7 || D 10)=true then _ else _)] _::_::(if (Nat.beq 6 7 || D 6)=true then _ else _)::_::_);rw [hB,hS];exact hw.pm
     case c10_1=>
      intro u LD D a W hcl hi hp hs hw;have hA:=Go.Sx.done hp 7 (by kernel_rfl);simp only [hi,hA,Bool.false_eq_true,if_false,if_true] at hw
      repeat (first|(refine sxv hs hw ?_;clear hs;intro a hs)|refine sxc hs ?_|(refine sxa hs hw ?_;clear hs hw;intro a b W hw hs)|(refine sxs hs hw ?_;clear hs hw;intro W hs hw))
      refine Or.inl ⟨hs,?_⟩;show Has 0 w0 _ (_::_::_::(if (Nat.beq 7 10 || D 7)=true then _ else _)::_);rw [hA];exact hw
     case k_1=>
      clear hs hw;intro u a W hs hw;replace hw:Has 0 w0 W (aA p [.int .i64 0,.pointer (some ⟨pf,0,none⟩),.slice (u 7).2.2.2 (t.rows ++ [N.2.1]).length (u 7).2.2.1] 201::Fz H2::aA (u 6).2.2.1 (aI N.2.1 (.slice xad N.2.1.b.l.length xcap)) 68::Sx.Own 68 5 (.slice (u 7).2.2.2 (t.rows ++ [N.2.1]).length (u 7).2.2.1) (t.rows ++ [N.2.1]).length (xs ++ aI N.2.1 (.slice xad N.2.1.b.l.length xcap))::aA b8 (aI N.2.1 (.slice xad N.2.1.b.l.length xcap)) 68::aU H2 pf N.1::aA b15 (aK bt (.slice bad bt.l.length bcap)) 66::eV bb (bys l ++ ext) 5::R):=hw;replace hs:Slots a 122 [(4,.slice (some ⟨bb,0,none⟩) l.length cap0),(5,.int .i64 ix),(10,.pointer (some ⟨p,0,none⟩)),(11,.int .i64 ((at_+kx:Nat):Int)),(65,.int .i64 (nn:Int)),(66,.int .i64 (j:Int))]:=hs.ot;generalize (u 7).2.2.2=rad at *;generalize (u 7).2.2.1=rcap at *;generalize (u 6).2.2.1=bx at *;clear u;have hw:Has 0 w0 W (aA p [.int .i64 0,.pointer (some ⟨pf,0,none⟩),.slice rad (t.rows ++ [N.2.1]).length rcap] 201::aU H2 pf N.1::Sx.Own 68 5 (.slice rad (t.rows ++ [N.2.1]).length rcap) (t.rows ++ [N.2.1]).length (xs ++ aI N.2.1 (.slice xad N.2.1.b.l.length xcap))::Fz H2::eV bb (bys l ++ ext) 5::aA b8 (aI N.2.1 (.slice xad N.2.1.b.l.length xcap)) 68::aA b15 (aK bt (.slice bad bt.l.length bcap)) 66::aA bx (aI N.2.1 (.slice xad N.2.1.b.l.length xcap)) 68::R):=hw.pm;have hw:=fZ (t:=⟨0,N.1,t.rows ++ [N.2.1]⟩) hw (hch.app (Ch.unit ⟨_,rfl,hsv⟩));refine zA hs hw ?_;clear hs;intro a hs;have hw:=hw.sub (L':=aN H2 p ⟨0,N.1,t.rows ++ [N.2.1]⟩::Fz H2::eV bb (bys l ++ ext) 5::R) (List.Sublist.cons_cons _ (List.Sublist.cons_cons _ (List.Sublist.cons_cons _ (List.Sublist.cons _ (List.Sublist.cons _ (List.Sublist.cons _ (List.Sublist.refl _)))))));refine bS (j+1,⟨0,N.1,t.rows ++ [N.2.1]⟩,at_+kx,H2) hs hw ⟨hj',rfl,by show (t.rows ++ [N.2.1]).length=j+1;rw [List.length_append,hrl];rfl,by show at_+kx≤l.length;omega,(hH0.trans hle01).trans hle2,?_,fun r hr=>?_⟩ (by show nn - (j+1)<nn - j;omega) ⟨rfl,rfl,rfl,rfl,rfl,bU (by show IntKind.i64.wrap ((j:Int)+1)=((j+1:Nat):Int);rw [IntWalk.i64_in _ (by omega)];omega),trivial⟩
      ·rw [List.drop_drop] at hgo;exact hgo
      ·rcases List.mem_append.1 hr with hr|hr
       ·exact hbk r hr
       ·obtain rfl:=List.mem_singleton.1 hr;have h1:(next t.f bt).2.2=true:=by rw [hN];exact hok
        have h2:=aAg h1;rw [hN] at h2;rw [h2];exact ⟨hbo,wL (sB h1).1⟩
     all_goals
      intro u LD D a W hcl hi hp hs hw;refine zA hs hw ?_;clear hs;intro a hs;exact Or.inl ⟨hs,hw⟩
   all_goals
    intro u LD D a W hcl hi hp hs hw;refine zA hs hw ?_;clear hs;intro a hs;exact Or.inl ⟨hs,hw⟩
  ·have hj':j=nn:=by
    have:¬j<nn:=by simpa using hcc
    omega
   rw [hj',Nat.sub_self] at hgo;refine zG hs ?_;exact ⟨t,H0,hH0,hix,hgo.symm,by omega,hbk,hs.ot,hw⟩
 ·clear hs hw;rintro a W ⟨t,H1,hle,hix,hgo,hrl,hbk,hs,hw⟩;rw [hgo] at hload;simp only at hload;obtain ⟨pf,vad,vcap,xs,hch,hw⟩:=kZ hw;refine zD hs hw ?_;clear hs hw;intro a W hs hw;have hw:Has 0 w0 W (aA p [.int .i64 ix,.pointer (some ⟨pf,0,none⟩),.slice vad t.rows.length vcap] 201::aU H1 pf t.f::Sx.Own 68 5 (.slice vad t.rows.length vcap) t.rows.length xs::Fz H1::eV bb (bys l ++ ext) 5::R):=hw;have hw:=fZ (t:=⟨ix,t.f,t.rows⟩) hw hch;refine aH hs (hc:=aAw w0 _ H1 p ⟨ix,t.f,t.rows⟩ _ (by show t.rows.length≤200000;omega) ⟨by show _≤ix;omega,by show ix≤_;omega⟩ hbk (hH.trans hle) hT hw) (k:=?_);rintro e0 W1 ⟨rfl,hw1⟩;refine ⟨_,rfl,?_⟩;clear hs hw;intro a hs;have hw:=hw1;clear hw1;have hdl:(jU ⟨ix,t.f,t.rows⟩).length≤300000000:=by
   have h1:=Ph.putI_length_le ix;have h2:=Ph.putI_length_le (t.rows.length:Int);have h3:=aAu (l:=t.rows) fun r hr=>aAv (hbk r hr).2;unfold jU;simp only [List.length_append];omega
  generalize jU ⟨ix,t.f,t.rows⟩=dt at *;refine nS (s:=⟨dt.toArray⟩) hs hw (by show dt.length≤_;omega) (c:=?_);clear hs hw;intro a bd cap4 ext4 W hw hr4 hs;refine zA hs hw ?_;clear hs;intro a hs;refine aH hs (hc:=aA3 dt l _ _ _ hr4 (hw.rdM (In.tl (In.tl (In.tl In.hd))) hr0)) (k:=?_);rintro e0 W1 ⟨rfl,hb⟩;refine ⟨_,rfl,?_⟩;clear hs;intro a hs;replace hw:=hw.below hb;clear hb
  by_cases heq:dt=l
  ·rw [if_pos heq] at hload;rw [heq,beq_self_eq_true] at hs;refine zA hs hw ?_;clear hs;intro a hs;exact rt2 hs rfl rfl rfl ⟨H1,hle,.inr ⟨_,p,hload,rfl,hw.sub (List.Sublist.cons _ (List.Sublist.cons_cons _ (List.Sublist.cons_cons _ (List.Sublist.cons _ (List.Sublist.refl _)))))⟩⟩
  ·rw [if_neg heq] at hload;have hne:(dt == l)=false:=by simpa using heq
   rw [hne] at hs;refine zA hs hw ?_;clear hs;intro a hs;exact rt2 hs rfl rfl rfl ⟨H1,hle,.inl ⟨hload,rfl,hw.sub (List.Sublist.cons _ (List.Sublist.cons _ (List.Sublist.cons_cons _ (List.Sublist.cons _ (List.Sublist.refl _)))))⟩⟩
def cP (h:fM):List UInt8:=frB 1 (Ph.putI h.term ++ Ph.putI h.vote)
def cJ (e:bY):List UInt8:=frB 2 (Ph.putI e.ix ++ Ph.putI e.term ++ Ph.putI e.kind ++ Ph.putT e.data.data.toList)
def iP:Nat→List UInt8→List UInt8
 |0,_=>[]
 |n+1,s=>match s with| []=>[]|_=>frB 4 (s.take 3000) ++ iP n (s.drop 3000)
def cY (s:dI):List UInt8:=frB 3 (Ph.putI s.ix ++ Ph.putI s.term ++ Ph.putT s.conf.data.toList ++ Ph.putI (s.data.data.toList.length:Int)) ++ iP 70 s.data.data.toList
structure jD where
 b:List UInt8
 lasts:Nat
 there:Bool
abbrev bM:=Option jD
def kA (d:bM) (b:List UInt8):Option bM:=
 let f:=d.getD ⟨[],0,false⟩
 if f.b.length+b.length≤1048576 then some (some {f with b:=f.b ++ b}) else none
def pU (d:bM):Option bM:=d.map fun f=>some {f with lasts:=f.b.length,there:=true}
def mS (b:List UInt8):Option bM:=if b.length≤1048576 then some (some ⟨b,b.length,true⟩) else none
structure dD where
 h:fM
 s:dI
 log:List bY
 size:Nat
def aAz (k:dD):List UInt8:=cY k.s ++ cP k.h ++ k.log.flatMap cJ
def pV (d:bM) (k:dD) (b:List UInt8) (n:dD):Option (bM×dD):=
 if k.size=0∨1048576<k.size+b.length then none
 else (kA d b).map fun d=>(d,{n with size:=k.size+b.length})
def nV (d:bM) (k:dD) (h:fM):Option (bM×dD):=if iA h=true then pV d k (cP h) {k with h:=h} else none
def lV (i:Int):List bY→Bool
 | []=>true
 |e::r=>eH e && (e.ix == i) && lV (i+1) r
def wO (d:bM) (k:dD) (l:List bY):Option (bM×dD):=
 match l with
 | []=>some (d,k)
 |e::r=>
  let at_:=e.ix - k.s.ix - 1
  if at_<0∨(k.log.length:Int)<at_∨lV e.ix (e::r)=false∨200<at_+((e::r).length:Int) then none
  else pV d k ((e::r).flatMap cJ) {k with log:=k.log.take at_.toNat ++ (e::r)}
def pW (d:bM) (k:dD) (s:dI):Option (bM×dD):=
 if eK s=false∨s.ix<k.s.ix then none
 else
  let at_:=s.ix - k.s.ix - 1
  let log:=if at_<0∧s.term=k.s.term then k.log
   else if 0≤at_∧at_<(k.log.length:Int)∧(k.log.getD at_.toNat fF).term=s.term then k.log.drop (at_.toNat+1) else []
  let n:dD:={k with s:=s,log:=log}
  (mS (aAz n)).map fun d=>(d,{n with size:=(aAz n).length})
structure cW where
 k:dD
 r:RaftD
 t:dU
def pX (d:bM) (s:cW) (o:fT):Option (bM×dD):=
 if o.snap=true then none else do
 let x←if o.hard=true then nV d s.k s.r.h else some (d,s.k)
 let y←if 0<o.from_ then wO x.1 x.2 (s.r.l.get o.from_ 200) else some x
 if o.hard=true∨0<o.from_ then (pU y.1).map fun d=>(d,y.2) else some y
def nW:Nat→RaftD→dU→Option dU
 |0,_,_=>none
 |n+1,r,t=>if t.ix<r.commit then (match r.l.get (w64 (t.ix+1)) 1 with| []=>some t|e::_=>nW n r (eD t e).1) else some t
def iB (x:Int):Bool:=decide (-9223372036854775808≤x) && decide (x≤9223372036854775807)
def aBA (o:OpD):Bool:=iB o.kind && iB o.vk && iB o.vn && iB o.ok && iB o.on && iB o.n && decide (o.key.size≤1000000) && decide (o.vs.size≤1000000) && decide (o.os.size≤1000000)
def mT (b:cT):Bool:=iB b.c && iB b.q && b.l.all aBA && decide (b.l.length≤8)
def lW (r:cC):Bool:=iB r.place && iB r.err && mT r.b
def kB (t:dU):Bool:=decide (t.rows.length≤1000) && t.rows.all lW && t.f.told.all fun x=>decide (x.2.b.l.length≤8)
def kC (r:RaftD):Bool:=decide (r.out.msgs.length=0) && (match r.v with|none=>true|some o=>decide (o.yes.length≤100) && decide (o.no.length≤100))
def aGE (k:dD):Bool:=decide (k.log.length≤200) && decide (0<k.size)
def lX (s:cW):Bool:=kC s.r && kB s.t && aGE s.k
def mU (d:bM) (s:cW) (o:fT):Option (bM×cW×List bF):=do
 let x←pX d s o
 let t←nW 300 s.r s.t
 if lX ⟨x.2,s.r,t⟩=true then some (x.1,⟨x.2,s.r,t⟩,o.msgs) else none
def aBB (d:bM) (s:cW):Option (bM×cW×List bF):=mU d {s with r:=s.r.fire.1} s.r.fire.2
def sM (d:bM) (s:cW) (m:bF):Option (bM×cW×List bF):=if m.kind=5 then none else mU d {s with r:=(s.r.step m).1} (s.r.step m).2
def emptyData:List UInt8:=jU emptyT
def sN (id:Int) (first:List Int):Option (bM×cW):=do
 let x←pW none ⟨⟨0,0⟩,zeroSnap,[],0⟩ ⟨0,0,⟨(iM first).toArray⟩,⟨emptyData.toArray⟩⟩
 let r←mR id x.2.h ⟨x.2.s,x.2.log⟩ x.2.s.ix
 if lX ⟨x.2,r,emptyT⟩=true then some (x.1,⟨x.2,r,emptyT⟩) else none
end Go.Proofs.YtgpbngfehfbndaaGreatDoor.Sw
