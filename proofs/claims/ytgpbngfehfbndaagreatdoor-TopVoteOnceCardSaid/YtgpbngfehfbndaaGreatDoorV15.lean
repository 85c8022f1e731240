import Derived.Test.YtgpbngfehfbndaaGreatDoorV14
set_option maxHeartbeats 16000000
set_option linter.all false
set_option maxRecDepth 10000
namespace Go.Proofs.YtgpbngfehfbndaaGreatDoor.Sw
open Go.RowKit Go.Sx
open Go.Proofs.Tryz (prog)
def jB (H:Fh) (v:Value) (rows:List cC):Prop:=∃xs,RdH H 5 v rows.length xs∧Ch (RowIn H) rows xs
structure jT (r:cC):Prop where
 place:i64 r.place
 err:i64 r.err
 b:iK r.b
def gG (s:fA) (n:Nat):List cC→fA×Nat×Int
 | []=>(s,n,0)
 |r::rs=>if (one s r).2.2=0 then gG (one s r).1 (if (one s r).2.1=true then n+1 else n) rs else ((one s r).1,n,(one s r).2.2)
theorem aFZ (s:fA) (r:cC):(one s r).1.l.length≤s.l.length+1:=by
 unfold one
 repeat (first|split|simp)
theorem aF0 (w0 W : World) (H : Fh) (p : Nat) (s : fA) (rows : List cC) (v : Value) (R : List Res) (hl : s.l.length + rows.length ≤ 1000000) (hb : ∀ r ∈ rows, jT r) (hr : jB H v rows) (hH : (fr w0).le H) (hT : Tabs w0) (hw : Has 0 w0 W (aV H p s :: Fz H :: R)) :
    Calls prog 252 ⟨[.pointer (some ⟨p, 0, none⟩), v]⟩ W fun e W' => ∃ H', e = .returned (.tuple ⟨[.int .i64 ((gG s 0 rows).2.1 : Nat), .int .i64 (gG s 0 rows).2.2]⟩) ∧ H.le H' ∧ Has 0 w0 W' (aV H' p (gG s 0 rows).1 :: Fz H' :: R) := by
  obtain ⟨xs, hr, hch⟩ := hr;obtain ⟨sad, scap, rfl⟩ := hr.slice;refine en Tryz.func252 Tryz.ntmps252 fun a hs => ?_;refine zC hs hw ?_; clear hs; intro a hs;refine bX (σ := Nat × Nat × fA × Fh) (fun t => [(0, .pointer (some ⟨p, 0, none⟩)), (13, .slice sad rows.length scap), (14, .int .i64 (rows.length : Int)), (15, .int .i64 (t.1 : Int)), (6, .int .i64 (t.2.1 : Int))]) (fun t => aV t.2.2.2 p t.2.2.1 :: Fz t.2.2.2 :: R) (fun t => t.1 ≤ rows.length ∧ t.2.1 ≤ t.1 ∧ t.2.2.1.l.length ≤ s.l.length + t.1 ∧ H.le t.2.2.2 ∧ gG t.2.2.1 t.2.1 (rows.drop t.1) = gG s 0 rows) (fun t => rows.length - t.1) (0, 0, s, H) ⟨Nat.zero_le _, Nat.zero_le _, Nat.le_refl _, Fh.le.refl _, rfl⟩ hs ⟨rfl, rfl, rfl, rfl, rfl, trivial⟩ hw ?_;clear hs hw;rintro ⟨j, n, s', H'⟩ a W ⟨hj, hn, hsl, hH', hgo⟩ hs hw;simp only at hj hn hsl hH' hgo hs hw;refine zA hs hw ?_; clear hs; intro a hs;refine cI hs (kt := fun hcc => ?_) (kf := fun hcc => ?_)
  · have hj' : j < rows.length := by simpa using hcc
    obtain ⟨r, hri⟩ : ∃ o, rows[j]? = some o := ⟨rows[j], List.getElem?_eq_getElem hj'⟩
    have hok := hb r (List.mem_of_getElem? hri);rw [aEH hri] at hgo;simp only [gG] at hgo;refine zG hs ?_;refine gT hs (r := hw.rdH (by repeat (first | exact In.hd | apply In.tl)) (hr.le hH')) (hk := RowIn.len) (ch := hch.mono (RowIn.le hH')) (ho := hri) (hlen := rfl) (c := ?_); clear hs; intro a g off c hc hcl hpc hlt hs;obtain ⟨rv, rfl, hrv⟩ := hc;obtain ⟨rad, rcap, rfl⟩ := hrv.slice;refine eC hs (cs := aI r (.slice rad r.b.l.length rcap)) (hc := hpc) (hl := by rfl) (c := ?_); clear hs; intro a hs;clear hpc
    repeat (first | (refine sxv hs hw ?_; clear hs; intro a hs) | refine sxc hs ?_ | (refine sxa hs hw ?_; clear hs hw; intro a b W hw hs) | (refine sxs hs hw ?_; clear hs hw; intro W hs hw))
    obtain ⟨b8, q8⟩ := nm1 hw; subst q8;have hw : Has 0 w0 _ (aV H' p s' :: Fz H' :: aA b8 (aI r (.slice rad r.b.l.length rcap)) 68 :: R) := hw.pm;refine aH hs (hc := aFY w0 _ H' p s' r _ _ (by omega) hok.place hok.b hrv (hH.trans hH') hT hw) (k := ?_); rintro e0 W1 ⟨H2, rfl, hle, hw1⟩; refine ⟨_, rfl, ?_⟩; clear hs hw; intro a hs; have hw := hw1; clear hw1;have hol := aFZ s' r;refine zA hs hw ?_; clear hs; intro a hs;cases he : ((one s' r).2.2 != 0) with
    | true =>
      rw [he] at hs;rw [if_neg (by simpa using he)] at hgo;refine zA hs hw ?_; clear hs; intro a hs;rw [← hgo];exact rt2 hs rfl rfl rfl ⟨H2, rfl, hH'.trans hle, hw.sub (List.Sublist.cons_cons _ (List.Sublist.cons_cons _ (List.Sublist.cons _ (List.Sublist.refl _))))⟩
    | false =>
    rw [he] at hs;rw [if_pos (by simpa using he)] at hgo;refine zA hs hw ?_; clear hs; intro a hs;have hw := hw.sub (L' := aV H2 p (one s' r).1 :: Fz H2 :: R) (List.Sublist.cons_cons _ (List.Sublist.cons_cons _ (List.Sublist.cons _ (List.Sublist.refl _))));cases hf : (one s' r).2.1 with
    | true =>
      rw [hf] at hs;rw [hf, if_pos rfl] at hgo;refine zA hs hw ?_; clear hs; intro a hs;exact bS (j + 1, n + 1, (one s' r).1, H2) hs hw ⟨hj', by show n + 1 ≤ j + 1; omega, by show (one s' r).1.l.length ≤ s.l.length + (j + 1); omega, hH'.trans hle, hgo⟩ (by show rows.length - (j + 1) < rows.length - j; omega) ⟨rfl, rfl, rfl, bU (by show IntKind.i64.wrap ((j : Int) + 1) = ((j + 1 : Nat) : Int); rw [IntWalk.i64_in _ (by omega)]; omega), bU (by show IntKind.i64.wrap ((n : Int) + 1) = ((n + 1 : Nat) : Int); rw [IntWalk.i64_in _ (by omega)]; omega), trivial⟩
    | false =>
      rw [hf] at hs;rw [hf, if_neg (by decide)] at hgo;refine zA hs hw ?_; clear hs; intro a hs;exact bS (j + 1, n, (one s' r).1, H2) hs hw ⟨hj', by show n ≤ j + 1; omega, by show (one s' r).1.l.length ≤ s.l.length + (j + 1); omega, hH'.trans hle, hgo⟩ (by show rows.length - (j + 1) < rows.length - j; omega) ⟨rfl, rfl, rfl, bU (by show IntKind.i64.wrap ((j : Int) + 1) = ((j + 1 : Nat) : Int); rw [IntWalk.i64_in _ (by omega)]; omega), rfl, trivial⟩
  · have hj' : j = rows.length := by have : ¬ j < rows.length := by simpa using hcc
                                     omega
    subst hj';rw [List.drop_length] at hgo;refine zA hs hw ?_; clear hs; intro a hs;rw [← hgo];exact rt2 hs rfl rfl rfl ⟨H', rfl, hH', hw⟩
theorem aAe (w0 W:World) (H:Fh) (p:Nat) (s:fA) (R:List Res) (hl:s.l.length≤1000000) (h8:∀r∈s.l,r.b.l.length≤1000) (hw:Has 0 w0 W (aV H p s::Fz H::R)):
  Calls prog 59 ⟨[.pointer (some ⟨p,0,none⟩)]⟩ W fun e W'=>∃ad cap xs' H',e= .returned (.slice ad s.l.length cap)∧H.le H'∧Ch (RowIn H') s.l xs'∧Has 0 w0 W' (Sx.Own 68 5 (.slice ad s.l.length cap) s.l.length xs'::aV H' p s::Fz H'::R):=by
 obtain ⟨pf,vad,vcap,xs,hch,hw⟩:=mM hw;refine en Tryz.func59 Tryz.ntmps59 fun a hs=>?_;refine zC hs hw ?_;clear hs;intro a hs;have hw:=hw.nilOwn 68 5;refine bX (σ:=Nat×Option Addr×Nat×List Value×Fh) (fun t=>[(11,.slice vad s.l.length vcap),(12,.int .i64 (s.l.length:Int)),(13,.int .i64 (t.1:Int)),(3,.slice t.2.1 (s.l.take t.1).length t.2.2.1)]) (fun t=>Sx.Own 68 5 (.slice t.2.1 (s.l.take t.1).length t.2.2.1) (s.l.take t.1).length t.2.2.2.1::Fz t.2.2.2.2::Sx.Own 68 5 (.slice vad s.l.length vcap) s.l.length xs::aA p [.pointer (some ⟨pf,0,none⟩),.slice vad s.l.length vcap] 186::aU H pf s.f::R) (fun t=>t.1≤s.l.length∧H.le t.2.2.2.2∧Ch (RowIn t.2.2.2.2) (s.l.take t.1) t.2.2.2.1) (fun t=>s.l.length - t.1) (0,none,0,[],H) ⟨Nat.zero_le _,Fh.le.refl _,rfl⟩ hs ⟨rfl,rfl,rfl,rfl,trivial⟩ (hw.pm) ?_;clear hs hw;rintro ⟨j,oad,ocap,ys,H'⟩ a W ⟨hj,hH',hch2⟩ hs hw;simp only at hj hH' hch2 hs hw;refine zA hs hw ?_;clear hs;intro a hs;refine cI hs (kt:=fun hcc=>?_) (kf:=fun hcc=>?_)
 ·have hj':j<s.l.length:=by simpa using hcc
  obtain ⟨r,hri⟩:∃o,s.l[j]? =some o:=⟨s.l[j],List.getElem?_eq_getElem hj'⟩
  have hok:=h8 r (List.mem_of_getElem? hri);have htk:(s.l.take j).length≤1000000:=by rw [List.length_take];omega
  refine zG hs ?_;refine gT hs (r:=hw.rd_own (In.tl (In.tl In.hd))) (hk:=RowIn.len) (ch:=hch) (ho:=hri) (hlen:=rfl) (c:=?_);clear hs;intro a g off c hc hcl hpc hlt hs;obtain ⟨rv,rfl,hrv⟩:=hc;obtain ⟨rad,rcap,rfl⟩:=hrv.slice;refine eC hs (cs:=aI r (.slice rad r.b.l.length rcap)) (hc:=hpc) (hl:=by rfl) (c:=?_);clear hs;intro a hs;clear hpc
  repeat (first|(refine sxv hs hw ?_;clear hs;intro a hs)|refine sxc hs ?_|(refine sxa hs hw ?_;clear hs hw;intro a b W hw hs)|(refine sxs hs hw ?_;clear hs hw;intro W hs hw))
  obtain ⟨b5,q5⟩:=nm1 hw;subst q5;have hw:Has 0 w0 _ (Fz H'::Sx.Own 68 5 (.slice oad (s.l.take j).length ocap) (s.l.take j).length ys::Sx.Own 68 5 (.slice vad s.l.length vcap) s.l.length xs::aA p [.pointer (some ⟨pf,0,none⟩),.slice vad s.l.length vcap] 186::aU H pf s.f::aA b5 (aI r (.slice rad r.b.l.length rcap)) 68::R):=hw.pm;refine aH hs (hc:=aA9 w0 _ H' r _ _ hok (hrv.le hH') hw) (k:=?_);rintro e0 W1 ⟨nv,H2,rfl,hle,hnv,hw1⟩;refine ⟨_,rfl,?_⟩;clear hs hw;intro a hs;have hw:=hw1;clear hw1;obtain ⟨nad,ncap,rfl⟩:=hnv.slice
  repeat (first|(refine sxv hs hw ?_;clear hs;intro a hs)|refine sxc hs ?_|(refine sxa hs hw ?_;clear hs hw;intro a b W hw hs)|(refine sxs hs hw ?_;clear hs hw;intro W hs hw))
  obtain ⟨bx,qx⟩:=nm1 hw;subst qx;have hw:Has 0 w0 _ (Sx.Own 68 5 (.slice oad (s.l.take j).length ocap) (s.l.take j).length ys::aA bx (aI r (.slice nad r.b.l.length ncap)) 68::Fz H2::Sx.Own 68 5 (.slice vad s.l.length vcap) s.l.length xs::aA p [.pointer (some ⟨pf,0,none⟩),.slice vad s.l.length vcap] 186::aU H pf s.f::aA b5 (aI r (.slice rad r.b.l.length rcap)) 68::R):=hw.pm;refine i6 hs (hw:=hw) (hi:=In.hd) (ch:=hch2.mono (RowIn.le hle)) (ha:=(⟨_,rfl,hnv⟩:RowIn H2 r (aI r (.slice nad r.b.l.length ncap)))) (hl:=rfl) (h1:=rfl) (hb:=by omega) (h63:=by omega) (k:=?_);clear hs hw;intro a ad2 cap2 W hs hw hc2;rw [←fQ hri] at hs hw hc2;refine zA hs hw ?_;clear hs;intro a hs;have hw:=hw.sub (L':=Sx.Own 68 5 (.slice ad2 (s.l.take (j+1)).length cap2) (s.l.take (j+1)).length (ys ++ aI r (.slice nad r.b.l.length ncap))::Fz H2::Sx.Own 68 5 (.slice vad s.l.length vcap) s.l.length xs::aA p [.pointer (some ⟨pf,0,none⟩),.slice vad s.l.length vcap] 186::aU H pf s.f::R) (List.Sublist.cons_cons _ (List.Sublist.cons _ (List.Sublist.cons_cons _ (List.Sublist.cons_cons _ (List.Sublist.cons_cons _ (List.Sublist.cons_cons _ (List.Sublist.cons _ (List.Sublist.refl _))))))));exact bS (j+1,ad2,cap2,ys ++ aI r (.slice nad r.b.l.length ncap),H2) hs hw ⟨hj',hH'.trans hle,hc2⟩ (by show s.l.length - (j+1)<s.l.length - j;omega) ⟨rfl,rfl,bU (by show IntKind.i64.wrap ((j:Int)+1)=((j+1:Nat):Int);rw [IntWalk.i64_in _ (by omega)];omega),rfl,trivial⟩
 ·have hj':j=s.l.length:=by
   have:¬j<s.l.length:=by simpa using hcc
   omega
  subst hj';rw [List.take_length] at hs hw hch2;refine zA hs hw ?_;clear hs;intro a hs;have hw:Has 0 w0 W (aU H pf s.f::aA p [.pointer (some ⟨pf,0,none⟩),.slice vad s.l.length vcap] 186::Sx.Own 68 5 (.slice vad s.l.length vcap) s.l.length xs::Sx.Own 68 5 (.slice oad s.l.length ocap) s.l.length ys::Fz H'::R):=hw.pm;have hw:=jA (j7 hw hH').swap2 (hch.mono (RowIn.le hH'));exact rt1 hs rfl rfl ⟨_,_,ys,H',rfl,hH',hch2,hw.swap2⟩
def wH:dZ→List cC→dZ→Prop
 |f,[],f'=>f=f'
 |f,r::rs,f'=>(next f r.b).2.2=true∧(next f r.b).2.1=r∧wH (next f r.b).1 rs f'
theorem sB {f:dZ} {b:cT} (h:(next f b).2.2=true):i9 f b=true∧next f b=(nP f b,dR f b,true):=by
 unfold next at *;cases hb:i9 f b with
 |true=>exact ⟨rfl,rfl⟩
 |false=>rw [hb] at h;cases h
theorem aAg {f:dZ} {b:cT} (h:(next f b).2.2=true):(next f b).2.1.b=b:=by rw [(sB h).2];rfl
structure dU where
 ix:Int
 f:dZ
 rows:List cC
structure bY where
 ix:Int
 term:Int
 kind:Int
 data:ByteArray
def bA (e:bY):List Value:=[.int .i64 e.ix,.int .i64 e.term,.int .i64 e.kind,.string e.data]
def pN (ix:Int) (t:dU) (b:cT):dU×cC×Bool:=
 match (next t.f b).2.2 with
 |true=>(⟨ix,(next t.f b).1,t.rows ++ [(next t.f b).2.1]⟩,(next t.f b).2.1,true)
 |false=>(⟨ix,t.f,t.rows⟩,zeroRow,false)
def eD (t:dU) (e:bY):dU×cC×Bool:=
 if e.ix=IntKind.i64.wrap (t.ix+1) then
  (match e.kind == 2,decode e.data.data.toList with
   |true,some p=>pN (IntKind.i64.wrap (t.ix+1)) t ⟨p.1,p.2.1,p.2.2⟩
   |_,_=>(⟨IntKind.i64.wrap (t.ix+1),t.f,t.rows⟩,zeroRow,false))
 else (t,zeroRow,false)
def cR (b:cT):List UInt8:=eA b.c b.q b.l
def d6 (r:cC):List UInt8:=Ph.putT (cR r.b)
def jU (t:dU):List UInt8:=Ph.putI t.ix ++ (Ph.putI (t.rows.length:Int) ++ t.rows.flatMap d6)
def lT (p:Int×Int×List OpD):cT:=⟨p.1,p.2.1,p.2.2⟩
def j8:Nat→dZ→List cC→List UInt8→Option (dZ×List cC)
 |0,f,rs,_=>some (f,rs)
 |n+1,f,rs,s=>
  match (Ph.getT s).2.2 == 0,decode (Ph.getT s).1 with
  |true,some p=>
   (match (next f (lT p)).2.2 with
    |true=>j8 n (next f (lT p)).1 (rs ++ [(next f (lT p)).2.1]) (s.drop (Ph.getT s).2.1)
    |false=>none)
  |_,_=>none
def kY (s:List UInt8):Option (Int×Nat×List UInt8):=
 if (Ph.getI s).2.2=0∧0≤(Ph.getI s).1∧(Ph.getI s).1≤1099511627776 then
  (if (Ph.getI (s.drop (Ph.getI s).2.1)).2.2=0∧0≤(Ph.getI (s.drop (Ph.getI s).2.1)).1∧(Ph.getI (s.drop (Ph.getI s).2.1)).1≤(Ph.getI s).1∧(Ph.getI (s.drop (Ph.getI s).2.1)).1≤s.length then
   some ((Ph.getI s).1,(Ph.getI (s.drop (Ph.getI s).2.1)).1.toNat,s.drop ((Ph.getI s).2.1+(Ph.getI (s.drop (Ph.getI s).2.1)).2.1)) else none)
 else none
def eU (s:List UInt8):Option dU:=
 match kY s with
 |none=>none
 |some (ix,n,t)=>
  match j8 n fY [] t with
  |none=>none
  |some (f,rs)=>if jU ⟨ix,f,rs⟩=s then some ⟨ix,f,rs⟩ else none
structure aAo (t:dU):Prop where
 play:wH fY t.rows t.f
 ok:∀r∈t.rows,jT r
 ix:(t.rows.length:Int)≤t.ix∧t.ix≤1099511627776
 len:t.rows.length≤100000
theorem aFp (s:List UInt8):s.length<(Ph.putT s).length:=by
 unfold Ph.putT;rw [List.length_append];have:0<(Ph.putI (s.length:Int)).length:=List.length_pos_iff.2 (Ph.putI_ne_nil _);omega
theorem wL {f:dZ} {b:cT} (h:i9 f b=true):dS b=true:=by
 unfold i9 at h;exact (Bool.and_eq_true_iff.1 h).1
theorem aAp:∀(rows:List cC) (f f':dZ) (rs:List cC) (t:List UInt8),wH f rows f'→(∀r∈rows,jT r)→j8 rows.length f rs (rows.flatMap d6 ++ t)=some (f',rs ++ rows)
 | [],f,f',rs,t,h,_=>by
  have h:f=f':=h;subst h;simp [j8]
 |r::rows,f,f',rs,t,⟨h1,h2,h3⟩,hok=>by
  have hm:dS r.b=true:=(wL (sB h1).1)
  have hbo:=hok r (by simp);have h12:(cR r.b).length≤1200:=(mK hm).2.2.2.2;have hg:=Ph.getT_putT (cR r.b) (rows.flatMap d6 ++ t) (by omega);have hd:decode (cR r.b)=some (r.b.c,r.b.q,r.b.l):=aFl hm hbo.b.ops;have e:(r::rows).flatMap d6 ++ t=Ph.putT (cR r.b) ++ (rows.flatMap d6 ++ t):=by
   simp [d6]
  rw [e];have hb:lT (r.b.c,r.b.q,r.b.l)=r.b:=rfl
  show (match (Ph.getT (Ph.putT (cR r.b) ++ (rows.flatMap d6 ++ t))).2.2 == 0,decode (Ph.getT (Ph.putT (cR r.b) ++ (rows.flatMap d6 ++ t))).1 with
   |true,some p=>_
   |_,_=>_)=_
  rw [hg];simp only [hd,hb,beq_self_eq_true,h1,h2];rw [List.drop_left,aAp rows _ f' _ t h3 fun q hq=>hok q (by simp [hq])];simp
theorem aFq (ix:Int) (n:Nat) (t:List UInt8) (h1:(n:Int)≤ix) (h2:ix≤1099511627776) (h3:n≤t.length):kY (Ph.putI ix ++ (Ph.putI (n:Int) ++ t))=some (ix,n,t):=by
 have g1:=Ph.getI_putI ix (Ph.putI (n:Int) ++ t) (by omega) (by omega);have g2:=Ph.getI_putI (n:Int) t (by omega) (by omega);unfold kY;rw [g1];simp only [List.drop_left];rw [g2];simp only;rw [if_pos ⟨by trivial,by omega,h2⟩,if_pos ⟨by trivial,by omega,h1,by simp only [List.length_append];omega⟩,←List.drop_drop,List.drop_left,List.drop_left];simp
theorem aAq:∀rows:List cC,rows.length≤(rows.flatMap d6).length
 | []=>by simp
 |r::rows=>by
  have h:=aAq rows;have h2:=aFp (cR r.b);simp only [List.flatMap_cons,List.length_append,List.length_cons];unfold d6;unfold d6 at h;omega
theorem aFr {t:dU} (h:aAo t):eU (jU t)=some t:=by
 unfold eU jU;rw [aFq _ _ _ h.ix.1 h.ix.2 (aAq _)];have:=aAp t.rows fY t.f [] [] h.play h.ok;rw [List.append_nil,List.nil_append] at this;simp only [this];rw [if_pos (by trivial)]
def aN (H:Fh) (p:Nat) (t:dU):Res:=Ex fun x:Nat×Value×List Value=>aA p [.int .i64 t.ix,.pointer (some ⟨x.1,0,none⟩),x.2.1] 201::aU H x.1 t.f::Sx.Own 68 5 x.2.1 t.rows.length x.2.2::bQ (Ch (RowIn H) t.rows x.2.2):: []
section
variable {G p pf:Nat} {w W:World} {R:List Res} {t:dU} {H H':Fh} {v:Value} {xs:List Value}
theorem fZ (h:Has G w W (aA p [.int .i64 t.ix,.pointer (some ⟨pf,0,none⟩),v] 201::aU H pf t.f::Sx.Own 68 5 v t.rows.length xs::R)) (hc:Ch (RowIn H) t.rows xs):Has G w W (aN H p t::R):=
 Has.shut (pf,v,xs) ((h.fact hc).pm)
theorem kZ (h:Has G w W (aN H p t::R)):∃pf vad vcap xs,Ch (RowIn H) t.rows xs∧Has G w W (aA p [.int .i64 t.ix,.pointer (some ⟨pf,0,none⟩),.slice vad t.rows.length vcap] 201::aU H pf t.f::Sx.Own 68 5 (.slice vad t.rows.length vcap) t.rows.length xs::R):=by
 obtain ⟨⟨pf,v,xs⟩,h⟩:=Has.open h;have h:Has G w W (aA p [.int .i64 t.ix,.pointer (some ⟨pf,0,none⟩),v] 201::aU H pf t.f::Sx.Own 68 5 v t.rows.length xs::bQ (Ch (RowIn H) t.rows xs)::R):=h;have hf:=h.told (In.tl (In.tl (In.tl In.hd)));have h:Has G w W (aA p [.int .i64 t.ix,.pointer (some ⟨pf,0,none⟩),v] 201::aU H pf t.f::Sx.Own 68 5 v t.rows.length xs::R):=h.sub (List.Sublist.cons_cons _ (List.Sublist.cons_cons _ (List.Sublist.cons_cons _ (List.Sublist.cons _ (List.Sublist.refl _)))));have h2:Has G w W (Sx.Own 68 5 v t.rows.length xs::aA p [.int .i64 t.ix,.pointer (some ⟨pf,0,none⟩),v] 201::aU H pf t.f::R):=h.pm;obtain ⟨ad,cap,rfl⟩:=h2.own_slice;exact ⟨pf,ad,cap,xs,hf,h⟩
theorem wN (h:Has G w W (aN H p t::R)) (hl:H.le H'):Has G w W (aN H' p t::R):=by
 obtain ⟨pf,ad,cap,xs,h1,h2⟩:=kZ h;exact fZ (j7 h2.swap2 hl).swap2 (h1.mono (RowIn.le hl))
end
def emptyT:dU:=⟨0,fY,[]⟩
theorem aAs (w0 W:World) (H:Fh) (R:List Res) (hw:Has 0 w0 W R):
  Calls prog 89 ⟨[]⟩ W fun e W'=>∃p,e= .returned (.pointer (some ⟨p,0,none⟩))∧Has 0 w0 W' (aN H p emptyT::R):=by
 refine en Tryz.func89 Tryz.ntmps89 fun a hs=>?_;refine zA hs hw ?_;clear hs;intro a hs;refine aH hs (hc:=aA7 w0 _ H _ hw) (k:=?_);rintro e0 W1 ⟨c,rfl,hw1⟩;refine ⟨_,rfl,?_⟩;clear hs hw;intro a hs;have hw:=hw1;clear hw1
 repeat (first|(refine sxv hs hw ?_;clear hs;intro a hs)|refine sxc hs ?_|(refine sxa hs hw ?_;clear hs hw;intro a b W hw hs)|(refine sxs hs hw ?_;clear hs hw;intro W hs hw))
 refine rt1 hs rfl rfl ⟨_,rfl,?_⟩;have hw:=hw.nilOwn 68 5;exact fZ (t:=emptyT) (xs:=[]) (hw.pm) rfl
theorem aAt (w0 W:World) (H:Fh) (r:cC) (sv:Value) (R:List Res) (hl:r.b.l.length≤1000) (hr:cG H sv r.b.l) (hw:Has 0 w0 W (Fz H::R)):
  Calls prog 184 ⟨[.agg ⟨aI r sv⟩]⟩ W fun e W'=>∃sv' H',e= .returned (.agg ⟨aI r sv'⟩)∧H.le H'∧cG H' sv' r.b.l∧Has 0 w0 W' (Fz H'::R):=by
 obtain ⟨sad,scap,rfl⟩:=hr.slice;refine en Tryz.func184 Tryz.ntmps184 fun a hs=>?_
 repeat (first|(refine sxv hs hw ?_;clear hs;intro a hs)|refine sxc hs ?_|(refine sxa hs hw ?_;clear hs hw;intro a b W hw hs)|(refine sxs hs hw ?_;clear hs hw;intro W hs hw))
 obtain ⟨b2,q2⟩:=nm1 hw;subst q2;obtain ⟨b1,q1⟩:=nm2 hw;subst q1;have hw:Has 0 w0 _ (Fz H::aA b2 [.int .i64 0,.int .i64 0,.int .i64 0,.slice none 0 0,.int .i64 0] 68::aA b1 (aI r (.slice sad r.b.l.length scap)) 68::R):=hw.pm;refine aH hs (hc:=r8 w0 _ H r.b.l _ _ hl hr hw) (k:=?_);rintro e0 W1 ⟨sv',H',rfl,h1,h2,hw1⟩;refine ⟨_,rfl,?_⟩;clear hs hw;intro a hs;have hw:=hw1;clear hw1;obtain ⟨tad,tcap,rfl⟩:=h2.slice;refine zB hs hw ?_;clear hs hw;intro a W hs hw;refine rc1 hs rfl rfl hw (In.tl In.hd) rfl ?_;exact ⟨_,H',rfl,h1,h2,hw.drop2.drop2⟩
theorem pO (w0 W:World) (H:Fh) (p:Nat) (t:dU) (R:List Res) (hw:Has 0 w0 W (aN H p t::R)):
  Calls prog 66 ⟨[.pointer (some ⟨p,0,none⟩)]⟩ W fun e W'=>e= .returned (.int .i64 t.ix)∧Has 0 w0 W' (aN H p t::R):=by
 obtain ⟨pf,ad,cap,xs,hc,hw⟩:=kZ hw;refine en Tryz.func66 Tryz.ntmps66 fun a hs=>?_;refine zC hs hw ?_;clear hs;intro a hs;exact rt1 hs rfl rfl ⟨rfl,fZ hw hc⟩
theorem aFw (w0 W:World) (H:Fh) (p:Nat) (t:dU) (e:bY) (R:List Res) (hl:t.rows.length≤1000000) (hd:e.data.size≤1000000) (hH:(fr w0).le H) (hT:Tabs w0) (hw:Has 0 w0 W (aN H p t::Fz H::R)):
  Calls prog 126 ⟨[.pointer (some ⟨p,0,none⟩),.agg ⟨bA e⟩]⟩ W fun x W'=>∃sv' H',x= .returned (.tuple ⟨[.agg ⟨aI (eD t e).2.1 sv'⟩,.bool (eD t e).2.2]⟩)∧H.le H'∧cG H' sv' (eD t e).2.1.b.l∧Has 0 w0 W' (aN H' p (eD t e).1::Fz H'::R):=by
 obtain ⟨pf,vad,vcap,xs,hch,hw⟩:=kZ hw;refine en Tryz.func126 Tryz.ntmps126 fun a hs=>?_
 repeat (first|(refine sxv hs hw ?_;clear hs;intro a hs)|refine sxc hs ?_|(refine sxa hs hw ?_;clear hs hw;intro a b W hw hs)|(refine sxs hs hw ?_;clear hs hw;intro W hs hw))
 obtain ⟨b4,q4⟩:=nm1 hw;subst q4;obtain ⟨b3,q3⟩:=nm2 hw;subst q3;have hw:Has 0 w0 _ (aA p [.int .i64 t.ix,.pointer (some ⟨pf,0,none⟩),.slice vad t.rows.length vcap] 201::aU H pf t.f::Sx.Own 68 5 (.slice vad t.rows.length vcap) t.rows.length xs::aA b4 zrc 68::aA b3 (bA e) 137::Fz H::R):=hw.pm;refine gS (V:=[.pointer (some ⟨p,0,none⟩),.bool false,.bool false,.pointer (some ⟨b3,0+0,none⟩),.int .i64 e.ix,.pointer (some ⟨p,0,none⟩),.pointer (some ⟨p,0,none⟩),.pointer (some ⟨p,0+0,none⟩),.int .i64 t.ix,.int .i64 (IntKind.i64.wrap (t.ix+1)),.bool (e.ix !=(IntKind.i64.wrap (t.ix+1))),.bool (e.ix !=(IntKind.i64.wrap (t.ix+1)))])
  (Rs:=fun D=>aA p [.int .i64 t.ix,.pointer (some ⟨pf,0,none⟩),.slice vad t.rows.length vcap] 201::aU H pf t.f::Sx.Own 68 5 (.slice vad t.rows.length vcap) t.rows.length xs::aA b4 zrc 68::aA b3 (bA e) 137::Fz H::R) hs hw (ho:=⟨?_,?c1_3,?_,?_,?_,?_,?_,?_,?_,?_,?_,?_,trivial⟩) (k:=?k_3)
 case c1_3=>
  intro LD D a W hcl hi hp hs hw;refine zC hs hw ?_;clear hs;intro a hs;exact ⟨hs,hw⟩
 case k_3=>
  clear hs hw;intro a W hs hw;replace hs:Slots a 68 [(21,.bool (e.ix !=(IntKind.i64.wrap (t.ix+1)))),(0,.pointer (some ⟨p,0,none⟩)),(3,.pointer (some ⟨b3,0,none⟩)),(4,.pointer (some ⟨b4,0,none⟩)),(5,.bool false)]:=hs.ot;replace hw:Has 0 w0 W (aA p [.int .i64 t.ix,.pointer (some ⟨pf,0,none⟩),.slice vad t.rows.length vcap] 201::aU H pf t.f::Sx.Own 68 5 (.slice vad t.rows.length vcap) t.rows.length xs::aA b4 zrc 68::aA b3 (bA e) 137::Fz H::R):=hw;cases hne:(e.ix !=(IntKind.i64.wrap (t.ix+1))) with
  |true=>
   rw [hne] at hs;have hX:eD t e=(t,zeroRow,false):=by unfold eD;rw [if_neg (by simpa using hne)]
   rw [hX];refine zB hs hw ?_;clear hs hw;intro a W hs hw;have hw:=fZ hw hch;refine rc2 hs rfl rfl hw (In.tl In.hd) rfl rfl ?_;exact ⟨.slice none 0 0,H,rfl,Fh.le.refl _,j6 H,hw.sub (List.Sublist.cons_cons _ (List.Sublist.cons _ (List.Sublist.cons _ (List.Sublist.refl _))))⟩
  |false=>
  rw [hne] at hs;have hix:e.ix=(IntKind.i64.wrap (t.ix+1)):=by simpa using hne
  refine zB hs hw ?_;clear hs hw;intro a W hs hw;have hw:Has 0 w0 W (aA p [.int .i64 (IntKind.i64.wrap (t.ix+1)),.pointer (some ⟨pf,0,none⟩),.slice vad t.rows.length vcap] 201::aU H pf t.f::Sx.Own 68 5 (.slice vad t.rows.length vcap) t.rows.length xs::aA b4 zrc 68::aA b3 (bA e) 137::Fz H::R):=hw;refine nS (s:=e.data) hs hw (by omega) (c:=?_);clear hs hw;intro a bb bcap0 ext W hw hrb hs;obtain ⟨⟨⟨c,q,l⟩,err⟩,hdec⟩:∃x,fB e.data.data.toList=x:=⟨_,rfl⟩
  have hdl:e.data.data.toList.length≤1000000:=by rw [Array.length_toList];exact hd
  have hlen:=hw.endF inn hH;refine aH hs (hc:=wM _ c q l err hdec _ _ hdl hrb (hT.keep hlen)) (k:=?_);rintro e0 W1 ⟨dad,dcap,rfl,hw1⟩;refine ⟨_,rfl,?_⟩;clear hs;intro a hs;replace hw:=hw.call hw1;clear hw1;have hw:Has 0 w0 _ (Sx.Own 55 9 (.slice dad l.length dcap) l.length (l.flatMap bZ)::Fz H::aA p [.int .i64 (IntKind.i64.wrap (t.ix+1)),.pointer (some ⟨pf,0,none⟩),.slice vad t.rows.length vcap] 201::aU H pf t.f::Sx.Own 68 5 (.slice vad t.rows.length vcap) t.rows.length xs::aA b4 zrc 68::aA b3 (bA e) 137::R):=(hw.perm (B:=Sx.Own 55 9 (.slice dad l.length dcap) l.length (l.flatMap bZ)::Fz H::aA p [.int .i64 (IntKind.i64.wrap (t.ix+1)),.pointer (some ⟨pf,0,none⟩),.slice vad t.rows.length vcap] 201::aU H pf t.f::Sx.Own 68 5 (.slice vad t.rows.length vcap) t.rows.length xs::aA b4 zrc 68::aA b3 (bA e) 137::eV bb (bys e.data.data.toList ++ ext) 5::R) (by repeat (first|exact List.Perm.refl _|refine nJ (by repeat (first|exact Pick.hd|apply Pick.tl)) ?_))).sub (List.Sublist.cons_cons _ (List.Sublist.cons_cons _ (List.Sublist.cons_cons _ (List.Sublist.cons_cons _ (List.Sublist.cons_cons _ (List.Sublist.cons_cons _ (List.Sublist.cons_cons _ (List.Sublist.cons _ (List.Sublist.refl _)))))))));obtain ⟨H1,hle01,hw,hbl⟩:=hw.freeze_own;have hH1:=hH.trans hle01;replace hch:=hch.mono (RowIn.le hle01);have hw:Has 0 w0 _ (aU H pf t.f::aA p [.int .i64 (IntKind.i64.wrap (t.ix+1)),.pointer (some ⟨pf,0,none⟩),.slice vad t.rows.length vcap] 201::Sx.Own 68 5 (.slice vad t.rows.length vcap) t.rows.length xs::aA b4 zrc 68::aA b3 (bA e) 137::Fz H1::R):=hw.pm;have hw:=(j7 hw hle01).swap2
  repeat (first|(refine sxv hs hw ?_;clear hs;intro a hs)|refine sxc hs ?_|(refine sxa hs hw ?_;clear hs hw;intro a b W hw hs)|(refine sxs hs hw ?_;clear hs hw;intro W hs hw))
  obtain ⟨b6,q6⟩:=nm1 hw;subst q6;have hw:Has 0 w0 _ (aA p [.int .i64 (IntKind.i64.wrap (t.ix+1)),.pointer (some ⟨pf,0,none⟩),.slice vad t.rows.length vcap] 201::aU H1 pf t.f::Sx.Own 68 5 (.slice vad t.rows.length vcap) t.rows.length xs::aA b4 zrc 68::aA b3 (bA e) 137::Fz H1::aA b6 [.int .i64 c,.int .i64 q,.slice dad l.length dcap] 66::R):=hw.pm;have hz:∀{a:Act},eD t e=(⟨(IntKind.i64.wrap (t.ix+1)),t.f,t.rows⟩,zeroRow,false)→True:=fun _=>trivial;cases hk:(e.kind !=2) with
  |true=>
   rw [hk] at hs;have hX:eD t e=(⟨(IntKind.i64.wrap (t.ix+1)),t.f,t.rows⟩,zeroRow,false):=by
    have hk2:(e.kind == 2)=false:=by simpa using hk
    unfold eD;rw [if_pos hix,hk2]
   rw [hX];refine zB hs hw ?_;clear hs hw;intro a W hs hw;have hw:=fZ (t:=⟨(IntKind.i64.wrap (t.ix+1)),t.f,t.rows⟩) hw hch;refine rc2 hs rfl rfl hw (In.tl In.hd) rfl rfl ?_;exact ⟨.slice none 0 0,H1,rfl,hle01,j6 H1,hw.sub (List.Sublist.cons_cons _ (List.Sublist.cons _ (List.Sublist.cons _ (List.Sublist.cons_cons _ (List.Sublist.cons _ (List.Sublist.refl _))))))⟩
  |false=>
  rw [hk] at hs;have hk2:(e.kind == 2)=true:=by simpa using hk
  cases hdo:decode e.data.data.toList with
  |none=>
   have hX:eD t e=(⟨(IntKind.i64.wrap (t.ix+1)),t.f,t.rows⟩,zeroRow,false):=by unfold eD;rw [if_pos hix,hk2,hdo]
   rw [hX];have he:err=1:=by unfold fB at hdec;rw [hdo] at hdec;simp at hdec;exact hdec.2.symm
   subst he;refine zB hs hw ?_;clear hs hw;intro a W hs hw;have hw:=fZ (t:=⟨(IntKind.i64.wrap (t.ix+1)),t.f,t.rows⟩) hw hch;refine rc2 hs rfl rfl hw (In.tl In.hd) rfl rfl ?_;exact ⟨.slice none 0 0,H1,rfl,hle01,j6 H1,hw.sub (List.Sublist.cons_cons _ (List.Sublist.cons _ (List.Sublist.cons _ (List.Sublist.cons_cons _ (List.Sublist.cons _ (List.Sublist.refl _))))))⟩
  |some pd=>
  have hpe:pd=(c,q,l)∧err=0:=by unfold fB at hdec;rw [hdo] at hdec;simp at hdec;exact ⟨hdec.1,hdec.2.symm⟩
  obtain ⟨rfl,rfl⟩:=hpe;have hA1:eD t e=pN (IntKind.i64.wrap (t.ix+1)) t ⟨c,q,l⟩:=by unfold eD;rw [if_pos hix,hk2,hdo]
  have hdk:=aAn hdl hdo;obtain ⟨bt,hbt⟩:∃b:cT,b=⟨c,q,l⟩:=⟨_,rfl⟩
  have hbo:iK bt:=by rw [hbt];exact ⟨hdk.1,hdk.2.1,hdk.2.2.2⟩
  rw [←hbt] at hA1;obtain ⟨rfl,rfl,rfl⟩:c=bt.c∧q=bt.q∧l=bt.l:=by rw [hbt];exact ⟨rfl,rfl,rfl⟩
  clear hbt hdo hdec hdk hz;obtain ⟨bad,hbad⟩:∃x,x=dad:=⟨_,rfl⟩
  obtain ⟨bcap,hbcap⟩:∃x,x=dcap:=⟨_,rfl⟩
  subst hbad hbcap;obtain ⟨N,hN⟩:∃N,next t.f bt=N:=⟨_,rfl⟩
  have hbl:cG H1 (.slice bad bt.l.length bcap) bt.l:=hbl;refine zA hs hw ?_;clear hs;intro a hs;have hw:Has 0 w0 _ (Fz H1::aU H1 pf t.f::bT::bT::bT::aA p [.int .i64 (IntKind.i64.wrap (t.ix+1)),.pointer (some ⟨pf,0,none⟩),.slice vad t.rows.length vcap] 201::aA b6 (aK bt (.slice bad bt.l.length bcap)) 66::Sx.Own 68 5 (.slice vad t.rows.length vcap) t.rows.length xs::aA b4 zrc 68::aA b3 (bA e) 137::R):=(hw.free.free.free).pm;refine fV (σ:=Value×Fh×Nat) (V:=fun u=>[.pointer (some ⟨p,0,none⟩),.pointer (some ⟨p,0,none⟩),.pointer (some ⟨p,0+1,none⟩),.pointer (some ⟨pf,0,none⟩),.agg ⟨aK bt (.slice bad bt.l.length bcap)⟩,.tuple ⟨[.agg ⟨aI N.2.1 (u 5).1⟩,.bool N.2.2]⟩,.tuple ⟨[.agg ⟨aI N.2.1 (u 6).1⟩,.bool N.2.2]⟩,.agg ⟨aI N.2.1 (u 7).1⟩,.bool N.2.2,.pointer (some ⟨(u 9).2.2,0,none⟩),.bool true,.bool N.2.2])
   (Rs:=fun u D=>(if D 5 then FzF (u 5).2.1 (H1.le (u 5).2.1∧cG (u 5).2.1 (u 5).1 N.2.1.b.l) else Fz H1)::(if D 5 then aU (u 5).2.1 pf N.1 else aU H1 pf t.f)::(if D 9 then aA (u 9).2.2 (if D 10 then aI N.2.1 (u 5).1 else zrc) 68 else bT)::(if D 6 then bQ (u 6=u 5) else bT)::(if D 7 then bQ (u 7=u 6) else bT)::aA p [.int .i64 (IntKind.i64.wrap (t.ix+1)),.pointer (some ⟨pf,0,none⟩),.slice vad t.rows.length vcap] 201::aA b6 (aK bt (.slice bad bt.l.length bcap)) 66::Sx.Own 68 5 (.slice vad t.rows.length vcap) t.rows.length xs::aA b4 zrc 68::aA b3 (bA e) 137::R) (fun _=>(.nilIface,H1,0)) hs hw (hVu:=?vu_2) (ho:=⟨?_,?_,?_,?_,?_,?c5_2,?c6_2,?c7_2,?_,?c9_2,?c10_2,?_,trivial⟩) (k:=?k_2)
  case vu_2=>
   intro u u' j h;rcases j with _|_|_|_|_|_|_|_|_|_|_|_|j
   all_goals first|rfl|simp [h]
  case c5_2=>
   intro u LD D a W hcl hi hp hs hw;have h6:=Go.Sx.not_done hcl hi 6 (by kernel_rfl);have h7:=Go.Sx.not_done hcl h6 7 (by kernel_rfl);have h10:=Go.Sx.not_done hcl h7 10 (by kernel_rfl);simp only [hi,h6,h7,h10,Bool.false_eq_true,if_false] at hw;have hw:=hw.swap2;refine aH hs (hc:=wG w0 _ H1 pf t.f bt _ _ hbo hbl hH1 hT hw) (k:=?_);rw [hN];rintro e0 W1 ⟨sv',H2,rfl,hle,hsv,hw1⟩;refine ⟨_,rfl,?_⟩;clear hs hw;intro a hs;have hw:=hw1;clear hw1;refine zG hs ?_;refine Or.inr ⟨(sv',H2,0),hs,?_⟩;have hw:=(hw.swap2).fzf (q:=H1.le H2∧cG H2 sv' N.2.1.b.l) ⟨hle,hsv⟩;show Has 0 w0 _ (_::_::(if D 9 then aA (u 9).2.2 (if (Nat.beq 10 5 || D 10)=true then _ else _) _ else bT)::(if (Nat.beq 6 5 || D 6)=true then _ else _)::(if (Nat.beq 7 5 || D 7)=true then _ else _)::_);rw [h6,h7,h10];exact hw
  case c6_2=>
   intro u LD D a W hcl hi hp hs hw;have h7:=Go.Sx.not_done hcl hi 7 (by kernel_rfl);simp only [hi,h7,Bool.false_eq_true,if_false] at hw;refine zA hs hw ?_;clear hs;intro a hs;refine Or.inr ⟨u 5,hs,?_⟩;show Has 0 w0 _ (_::_::_::bQ (u 5=u 5)::(if (Nat.beq 7 6 || D 7)=true then _ else _)::_);rw [h7];exact (hw.fact rfl).fill (Upd.tl (Upd.tl (Upd.tl Upd.hd)))
  case c7_2=>
   intro u LD D a W hcl hi hp hs hw;simp only [hi,Bool.false_eq_true,if_false] at hw;refine zA hs hw ?_;clear hs;intro a hs;refine Or.inr ⟨u 6,hs,?_⟩;show Has 0 w0 _ (_::_::_::_::bQ (u 6=u 6)::_);exact (hw.fact rfl).fill (Upd.tl (Upd.tl (Upd.tl (Upd.tl Upd.hd))))
  case c9_2=>
   intro u LD D a W hcl hi hp hs hw;have h10:=Go.Sx.not_done hcl hi 10 (by kernel_rfl);simp only [hi,Bool.false_eq_true,if_false] at hw
   repeat (first|(refine sxv hs hw ?_;clear hs;intro a hs)|refine sxc hs ?_|(refine sxa hs hw ?_;clear hs hw;intro a b W hw hs)|(refine sxs hs hw ?_;clear hs hw;intro W hs hw))
   refine Or.inr ⟨(.nilIface,H1,_),hs,?_⟩;show Has 0 w0 _ (_::_::aA _ (if (Nat.beq 10 9 || D 10)=true then _ else _) _::_);rw [h10];exact hw.fill (Upd.tl (Upd.tl Upd.hd))
  case c10_2=>
   intro u LD D a W hcl hi hp hs hw;have h7:=Go.Sx.done hp 7 (by kernel_rfl);have h9:=Go.Sx.done hp 9 (by kernel_rfl);have h6:=Go.Sx.done (hcl 7 _ rfl h7) 6 (by kernel_rfl);have h5:=Go.Sx.done (hcl 6 _ rfl h6) 5 (by kernel_rfl);have e1:(if D 7=true then bQ (u 7=u 6) else bT)=bQ (u 7=u 6):=by rw [h7];rfl
   have e2:(if D 6=true then bQ (u 6=u 5) else bT)=bQ (u 6=u 5):=by rw [h6];rfl
   have g7:u 7=u 5:=by
    have hw2:=hw;simp only [e1,e2] at hw2;exact (hw2.told (In.tl (In.tl (In.tl (In.tl In.hd))))).trans (hw2.told (In.tl (In.tl (In.tl In.hd))))
   simp only [hi,h5,h9,Bool.false_eq_true,if_false,if_true] at hw;obtain ⟨⟨_,hsv⟩,_⟩:=hw.unfzf;obtain ⟨tad,tcap,e13⟩:=hsv.slice;refine d7 hs (hw:=hw) (vs:=aI N.2.1 (u 7).1) (h1:=by rw [g7,e13];rfl) (k:=?_);clear hs hw;intro W hs hw;rw [show (u 7).1=(u 5).1 from by rw [g7]] at hw;refine zG hs ?_;refine Or.inl ⟨hs,?_⟩;show Has 0 w0 _ ((if (Nat.beq 5 10 || D 5)=true then _ else _)::(if (Nat.beq 5 10 || D 5)=true then _ else _)::(if (Nat.beq 9 10 || D 9)=true then _ else _)::_);rw [h5,h9];exact hw
  case k_2=>
   clear hs hw;intro u a W hs hw;replace hw:Has 0 w0 W (FzF (u 5).2.1 (H1.le (u 5).2.1∧cG (u 5).2.1 (u 5).1 N.2.1.b.l)::aU (u 5).2.1 pf N.1::aA (u 9).2.2 (aI N.2.1 (u 5).1) 68::bQ (u 6=u 5)::bQ (u 7=u 6)::aA p [.int .i64 (IntKind.i64.wrap (t.ix+1)),.pointer (some ⟨pf,0,none⟩),.slice vad t.rows.length vcap] 201::aA b6 (aK bt (.slice bad bt.l.length bcap)) 66::Sx.Own 68 5 (.slice vad t.rows.length vcap) t.rows.length xs::aA b4 zrc 68::aA b3 (bA e) 137::R):=hw;replace hw:=hw.sub (L':=FzF (u 5).2.1 (H1.le (u 5).2.1∧cG (u 5).2.1 (u 5).1 N.2.1.b.l)::aU (u 5).2.1 pf N.1::aA (u 9).2.2 (aI N.2.1 (u 5).1) 68::aA p [.int .i64 (IntKind.i64.wrap (t.ix+1)),.pointer (some ⟨pf,0,none⟩),.slice vad t.rows.length vcap] 201::aA b6 (aK bt (.slice bad bt.l.length bcap)) 66::Sx.Own 68 5 (.slice vad t.rows.length vcap) t.rows.length xs::aA b4 zrc 68::aA b3 (bA e) 137::R) (List.Sublist.cons_cons _ (List.Sublist.cons_cons _ (List.Sublist.cons_cons _ (List.Sublist.cons _ (List.Sublist.cons _ (List.Sublist.refl _))))));replace hs:Slots a 68 [(0,.pointer (some ⟨p,0,none⟩)),(4,.pointer (some ⟨b4,0,none⟩)),(8,.pointer (some ⟨(u 9).2.2,0,none⟩)),(9,.bool N.2.2)]:=hs.ot;generalize (u 9).2.2=b8 at *;generalize (u 5).2.1=H2 at *;generalize (u 5).1=sv2 at *;clear u;obtain ⟨⟨hle2,hsv⟩,hw⟩:=hw.unfzf;obtain ⟨xad,xcap,rfl⟩:=hsv.slice;replace hch:=hch.mono (RowIn.le hle2);cases hok:N.2.2 with
   |false=>
    rw [hok] at hs;have hX:eD t e=(⟨(IntKind.i64.wrap (t.ix+1)),t.f,t.rows⟩,zeroRow,false):=by rw [hA1];unfold pN;rw [hN,hok]
    rw [hX];have hNe:N=(t.f,zeroRow,false):=by
     rw [←hN] at hok⊢;unfold next at hok⊢;cases hb:i9 t.f bt with
     |true=>rw [hb] at hok;cases hok
     |false=>rfl
    subst hNe;have hw:Has 0 w0 W (aA p [.int .i64 (IntKind.i64.wrap (t.ix+1)),.pointer (some ⟨pf,0,none⟩),.slice vad t.rows.length vcap] 201::aU H2 pf t.f::Sx.Own 68 5 (.slice vad t.rows.length vcap) t.rows.length xs::aA b8 (aI zeroRow (.slice xad zeroRow.b.l.length xcap)) 68::aA b4 zrc 68::Fz H2::aA b6 (aK bt (.slice bad bt.l.length bcap)) 66::aA b3 (bA e) 137::R):=hw.pm;have hw:=fZ (t:=⟨(IntKind.i64.wrap (t.ix+1)),t.f,t.rows⟩) hw hch;refine zB hs hw ?_;clear hs hw;intro a W hs hw;refine rc2 hs rfl rfl hw (In.tl (In.tl In.hd)) rfl rfl ?_;have hw:=hw.sub (L':=aN H2 p ⟨(IntKind.i64.wrap (t.ix+1)),t.f,t.rows⟩::Fz H2::R) (List.Sublist.cons_cons _ (List.Sublist.cons _ (List.Sublist.cons _ (List.Sublist.cons_cons _ (List.Sublist.cons _ (List.Sublist.cons _ (List.Sublist.refl _)))))));exact ⟨_,H2,rfl,hle01.trans hle2,hsv,hw⟩
   |true=>
    rw [hok] at hs;have hX:eD t e=(⟨(IntKind.i64.wrap (t.ix+1)),N.1,t.rows ++ [N.2.1]⟩,N.2.1,true):=by rw [hA1];unfold pN;rw [hN,hok]
    rw [hX];have hr8:N.2.1.b.l.length≤1000:=by
     have h1:(next t.f bt).2.2=true:=by rw [hN];exact hok
     have h2:=aAg h1;rw [hN] at h2;rw [h2];have:=(wF (wL (sB h1).1)).2.2;omega
    have hw:Has 0 w0 W (aA p [.int .i64 (IntKind.i64.wrap (t.ix+1)),.pointer (some ⟨pf,0,none⟩),.slice vad t.rows.length vcap] 201::Fz H2::bT::Sx.Own 68 5 (.slice vad t.rows.length vcap) t.rows.length xs::aA b8 (aI N.2.1 (.slice xad N.2.1.b.l.length xcap)) 68::aU H2 pf N.1::aA b6 (aK bt (.slice bad bt.l.length bcap)) 66::aA b4 zrc 68::aA b3 (bA e) 137::R):=(hw.free).pm;refine zA hs hw ?_;clear hs;intro a hs;refine fV (σ:=Value×Fh×Nat×Option Addr) (V:=fun u=>[.pointer (some ⟨p,0,none⟩),.pointer (some ⟨p,0,none⟩),.pointer (some ⟨p,0,none⟩),.pointer (some ⟨p,0+2,none⟩),.slice vad t.rows.length vcap,.agg ⟨aI N.2.1 (.slice xad N.2.1.b.l.length xcap)⟩,.agg ⟨aI N.2.1 (u 6).1⟩,.slice (some ⟨(u 7).2.2.1,0,none⟩) 1 1,.slice (u 8).2.2.2 (t.rows ++ [N.2.1]).length (u 8).2.2.1,.pointer (some ⟨p,0,none⟩),.pointer (some ⟨p,0+2,none⟩),.bool true])
     (Rs:=fun u D=>aA p [.int .i64 (IntKind.i64.wrap (t.ix+1)),.pointer (some ⟨pf,0,none⟩),(if D 11 then .slice (u 8).2.2.2 (t.rows ++ [N.2.1]).length (u 8).2.2.1 else .slice vad t.rows.length vcap)] 201::(if D 6 then FzF (u 6).2.1 (H2.le (u 6).2.1∧cG (u 6).2.1 (u 6).1 N.2.1.b.l) else Fz H2)::(if D 7 then aA (u 7).2.2.1 (aI N.2.1 (u 6).1) 68 else bT)::(if D 8 then Sx.Own 68 5 (.slice (u 8).2.2.2 (t.rows ++ [N.2.1]).length (u 8).2.2.1) (t.rows ++ [N.2.1]).length (xs ++ aI N.2.1 (u 6).1) else Sx.Own 68 5 (.slice vad t.rows.length vcap) t.rows.length xs)::aA b8 (aI N.2.1 (.slice xad N.2.1.b.l.length xcap)) 68::aU H2 pf N.1::aA b6 (aK bt (.slice bad bt.l.length bcap)) 66::aA b4 zrc 68::aA b3 (bA e) 137::R) (fun _=>(.nilIface,H2,0,none)) hs hw (hVu:=?vu_1) (ho:=⟨?_,?_,?_,?_,?c4_1,?_,?c6_1,?c7_1,?c8_1,?_,?_,?c11_1,trivial⟩) (k:=?k_1)
    case vu_1=>
     intro u u' j h;rcases j with _|_|_|_|_|_|_|_|_|_|_|_|j
     all_goals first|rfl|simp [h]
    case c4_1=>
     intro u LD D a W hcl hi hp hs hw;have hA:=Go.Sx.not_done hcl hi 8 (by kernel_rfl);have hS:=Go.Sx.not_done hcl hA 11 (by kernel_rfl);have hw0:=hw;simp only [hS,Bool.false_eq_true,if_false] at hw;refine zA hs hw ?_;clear hs;intro a hs;exact Or.inl ⟨hs,hw0⟩
    case c6_1=>
     intro u LD D a W hcl hi hp hs hw;have hB:=Go.Sx.not_done hcl hi 7 (by kernel_rfl);have hA:=Go.Sx.not_done hcl hB 8 (by kernel_rfl);have hS:=Go.Sx.not_done hcl hA 11 (by kernel_rfl);simp only [hi,hB,hA,hS,Bool.false_eq_true,if_false] at hw
     repeat (first|(refine sxv hs hw ?_;clear hs;intro a hs)|refine sxc hs ?_|(refine sxa hs hw ?_;clear hs hw;intro a b W hw hs)|(refine sxs hs hw ?_;clear hs hw;intro W hs hw))
     have hw:Has 0 w0 W (Fz H2::aA p [.int .i64 (IntKind.i64.wrap (t.ix+1)),.pointer (some ⟨pf,0,none⟩),.slice vad t.rows.length vcap] 201::bT::Sx.Own 68 5 (.slice vad t.rows.length vcap) t.rows.length xs::aA b8 (aI N.2.1 (.slice xad N.2.1.b.l.length xcap)) 68::aU H2 pf N.1::aA b6 (aK bt (.slice bad bt.l.length bcap)) 66::aA b4 zrc 68::aA b3 (bA e) 137::R):=hw.pm;refine aH hs (hc:=aAt w0 _ H2 N.2.1 _ _ hr8 hsv hw) (k:=?_);rintro e0 W1 ⟨sv',H',rfl,h1,h2,hw1⟩;refine ⟨_,rfl,?_⟩;clear hs hw;intro a hs;have hw:=hw1;clear hw1;refine zG hs ?_;refine Or.inr ⟨(sv',H',0,none),hs,?_⟩;have hw:=hw.fzf (q:=H2.le H'∧cG H' sv' N.2.1.b.l) ⟨h1,h2⟩;show Has 0 w0 _ (aA p [_,_,(if (Nat.beq 11 6 || D 11)=true then _ else _)] _::_::(if (Nat.beq 7 6 || D 7)=true then _ else _)::(if (Nat.beq 8 6 || D 8)=true then _ else _)::_);rw [hB,hA,hS];exact hw.pm
    case c7_1=>
     intro u LD D a W hcl hi hp hs hw;have hB:=hi;have h6:=Go.Sx.done hp 6 (by kernel_rfl);have hA:=Go.Sx.not_done hcl hB 8 (by kernel_rfl);have hS:=Go.Sx.not_done hcl hA 11 (by kernel_rfl);simp only [hi,h6,hA,hS,Bool.false_eq_true,if_false,if_true] at hw
     repeat (first|(refine sxv hs hw ?_;clear hs;intro a hs)|refine sxc hs ?_|(refine sxa hs hw ?_;clear hs hw;intro a b W hw hs)|(refine sxs hs hw ?_;clear hs hw;intro W hs hw))
     refine Or.inr ⟨(.nilIface,H2,_,none),hs,?_⟩;show Has 0 w0 _ (aA p [_,_,(if (Nat.beq 11 7 || D 11)=true then _ else _)] _::(if (Nat.beq 6 7 || D 6)=true then _ else _)::_::(if (Nat.beq 8 7 || D 8)=true then _ else _)::_);rw [h6,hA,hS];exact hw.fill (Upd.tl (Upd.tl Upd.hd))
    case c8_1=>
     intro u LD D a W hcl hi hp hs hw;have hB:=Go.Sx.done hp 7 (by kernel_rfl);have h6:=Go.Sx.done (hcl 7 _ rfl hB) 6 (by kernel_rfl);have hS:=Go.Sx.not_done hcl hi 11 (by kernel_rfl);simp only [hi,hB,h6,hS,Bool.false_eq_true,if_false,if_true] at hw;have hw:Has 0 w0 W (FzF (u 6).2.1 (H2.le (u 6).2.1∧cG (u 6).2.1 (u 6).1 N.2.1.b.l)::Sx.Own 68 5 (.slice vad t.rows.length vcap) t.rows.length xs::aA p [.int .i64 (IntKind.i64.wrap (t.ix+1)),.pointer (some ⟨pf,0,none⟩),.slice vad t.rows.length vcap] 201::aA (u 7).2.2.1 (aI N.2.1 (u 6).1) 68::aA b8 (aI N.2.1 (.slice xad N.2.1.b.l.length xcap)) 68::aU H2 pf N.1::aA b6 (aK bt (.slice bad bt.l.length bcap)) 66::aA b4 zrc 68::aA b3 (bA e) 137::R):=hw.pm;obtain ⟨⟨hle,hv⟩,_⟩:=hw.unfzf;have hw:Has 0 w0 W (Sx.Own 68 5 (.slice vad t.rows.length vcap) t.rows.length xs::FzF (u 6).2.1 (H2.le (u 6).2.1∧cG (u 6).2.1 (u 6).1 N.2.1.b.l)::aA p [.int .i64 (IntKind.i64.wrap (t.ix+1)),.pointer (some ⟨pf,0,none⟩),.slice vad t.rows.length vcap] 201::aA (u 7).2.2.1 (aI N.2.1 (u 6).1) 68::aA b8 (aI N.2.1 (.slice xad N.2.1.b.l.length xcap)) 68::aU H2 pf N.1::aA b6 (aK bt (.slice bad bt.l.length bcap)) 66::aA b4 zrc 68::aA b3 (bA e) 137::R):=hw.swap2;have hone:=RowIn.ones (H:=(u 6).2.1) N.2.1 (aI N.2.1 (u 6).1) ⟨_,rfl,hv⟩;refine i6 hs (hw:=hw) (hi:=In.tl (In.tl In.hd)) (ch:=(hch.mono (RowIn.le hle))) (ha:=(⟨_,rfl,hv⟩:RowIn (u 6).2.1 N.2.1 (aI N.2.1 (u 6).1))) (hl:=rfl) (h1:=by rw [List.all_eq_true];exact hone) (hb:=by omega) (h63:=by omega) (k:=?_);clear hs hw;intro a ad cap W hs hw hc2;refine zG hs ?_;refine Or.inr ⟨(.nilIface,H2,cap,ad),hs,?_⟩;show Has 0 w0 _ (aA p [_,_,(if (Nat.beq 11 8 || D 11)=true then _ else _)] _::(if (Nat.beq 6 8 || D 6)=true then _ else _)::(if (Nat.beq 7 8 || D 7)=true then _ else _)::_::_);rw [h6,hB,hS];exact hw.pm
    case c11_1=>
     intro u LD D a W hcl hi hp hs hw;have hA:=Go.Sx.done hp 8 (by kernel_rfl);simp only [hi,hA,Bool.false_eq_true,if_false,if_true] at hw
     repeat (first|(refine sxv hs hw ?_;clear hs;intro a hs)|refine sxc hs ?_|(refine sxa hs hw ?_;clear hs hw;intro a b W hw hs)|(refine sxs hs hw ?_;clear hs hw;intro W hs hw))
     refine Or.inl ⟨hs,?_⟩;show Has 0 w0 _ (_::_::_::(if (Nat.beq 8 11 || D 8)=true then _ else _)::_);rw [hA];exact hw
    case k_1=>
     clear hs hw;intro u a W hs hw;replace hw:Has 0 w0 W (aA p [.int .i64 (IntKind.i64.wrap (t.ix+1)),.pointer (some ⟨pf,0,none⟩),.slice (u 8).2.2.2 (t.rows ++ [N.2.1]).length (u 8).2.2.1] 201::FzF (u 6).2.1 (H2.le (u 6).2.1∧cG (u 6).2.1 (u 6).1 N.2.1.b.l)::aA (u 7).2.2.1 (aI N.2.1 (u 6).1) 68::Sx.Own 68 5 (.slice (u 8).2.2.2 (t.rows ++ [N.2.1]).length (u 8).2.2.1) (t.rows ++ [N.2.1]).length (xs ++ aI N.2.1 (u 6).1)::aA b8 (aI N.2.1 (.slice xad N.2.1.b.l.length xcap)) 68::aU H2 pf N.1::aA b6 (aK bt (.slice bad bt.l.length bcap)) 66::aA b4 zrc 68::aA b3 (bA e) 137::R):=hw;replace hs:Slots a 68 [(0,.pointer (some ⟨p,0,none⟩)),(4,.pointer (some ⟨b4,0,none⟩)),(8,.pointer (some ⟨b8,0,none⟩)),(9,.bool true)]:=hs.ot;generalize (u 8).2.2.2=rad at *;generalize (u 8).2.2.1=rcap at *;generalize (u 7).2.2.1=bx at *;generalize (u 6).2.1=H3 at *;generalize (u 6).1=v3 at *;clear u;have hw:Has 0 w0 W (FzF H3 (H2.le H3∧cG H3 v3 N.2.1.b.l)::aA p [.int .i64 (IntKind.i64.wrap (t.ix+1)),.pointer (some ⟨pf,0,none⟩),.slice rad (t.rows ++ [N.2.1]).length rcap] 201::aA bx (aI N.2.1 v3) 68::Sx.Own 68 5 (.slice rad (t.rows ++ [N.2.1]).length rcap) (t.rows ++ [N.2.1]).length (xs ++ aI N.2.1 v3)::aA b8 (aI N.2.1 (.slice xad N.2.1.b.l.length xcap)) 68::aU H2 pf N.1::aA b6 (aK bt (.slice bad bt.l.length bcap)) 66::aA b4 zrc 68::aA b3 (bA e) 137::R):=hw.pm;obtain ⟨⟨hle3,hv⟩,hw⟩:=hw.unfzf;have hw:Has 0 w0 W (aU H2 pf N.1::aA p [.int .i64 (IntKind.i64.wrap (t.ix+1)),.pointer (some ⟨pf,0,none⟩),.slice rad (t.rows ++ [N.2.1]).length rcap] 201::Sx.Own 68 5 (.slice rad (t.rows ++ [N.2.1]).length rcap) (t.rows ++ [N.2.1]).length (xs ++ aI N.2.1 v3)::aA b8 (aI N.2.1 (.slice xad N.2.1.b.l.length xcap)) 68::aA b4 zrc 68::Fz H3::aA b6 (aK bt (.slice bad bt.l.length bcap)) 66::aA b3 (bA e) 137::aA bx (aI N.2.1 v3) 68::R):=hw.pm;have hw:=(j7 hw hle3).swap2;have hw:=fZ (t:=⟨(IntKind.i64.wrap (t.ix+1)),N.1,t.rows ++ [N.2.1]⟩) hw ((hch.mono (RowIn.le hle3)).app (Ch.unit ⟨_,rfl,hv⟩));refine zB hs hw ?_;clear hs hw;intro a W hs hw;refine rc2 hs rfl rfl hw (In.tl (In.tl In.hd)) rfl rfl ?_;have hw:=hw.sub (L':=aN H3 p ⟨(IntKind.i64.wrap (t.ix+1)),N.1,t.rows ++ [N.2.1]⟩::Fz H3::R) (List.Sublist.cons_cons _ (List.Sublist.cons _ (List.Sublist.cons _ (List.Sublist.cons_cons _ (List.Sublist.cons _ (List.Sublist.cons _ (List.Sublist.cons _ (List.Sublist.refl _))))))));exact ⟨_,H3,rfl,(hle01.trans hle2).trans hle3,hsv.le hle3,hw⟩
    all_goals
     intro u LD D a W hcl hi hp hs hw;refine zA hs hw ?_;clear hs;intro a hs;exact Or.inl ⟨hs,hw⟩
  all_goals
   intro u LD D a W hcl hi hp hs hw;refine zA hs hw ?_;clear hs;intro a hs;exact Or.inl ⟨hs,hw⟩
 all_goals
  intro LD D a W hcl hi hp hs hw;refine zA hs hw ?_;clear hs;intro a hs;exact ⟨hs,hw⟩
abbrev w64 (x:Int):Int:=IntKind.i64.wrap x
def gI:Option Int→List Int→Bool
 |_,[]=>true
 |none,x::r=>!decide (x<1) && !decide (x > 7) && gI (some x) r
 |some q,x::r=>!decide (x<1) && !decide (x > 7) && !decide (q≥x) && gI (some x) r
def dB (l:List Int):Bool:=gI none l && decide ((l.length:Int) > 0)
def iM (l:List Int):List UInt8:=match dB l with|false=>[]|true=>l.map fun x=>UInt8.ofNat (48+x).toNat
def dL (s:List UInt8):List Int×Bool:=match dB (s.map fun c=>(c.toNat:Int) - 48) with|false=>([],false)|true=>(s.map fun c=>(c.toNat:Int) - 48,true)
def has (l:List Int) (x:Int):Bool:=l.any (· == x)
def mP (S:List Int) (j:Nat):List Int:=(S.set (j+1) (S.getD j 0)).set j (S.getD (j+1) 0)
def gJ:Nat→List Int→List Int
 |0,S=>S
 |j+1,S=>match decide (S.getD (j+1) 0<S.getD j 0) with|true=>gJ j (mP S j)|false=>S
def iN:Nat→Nat→List Int→List Int
 |0,_,S=>S
 |f+1,i,S=>iN f (i+1) (gJ i S)
def dV (l:List Int):List Int:=iN (l.length - 1) 1 l
def pQ (l:List Int) (x:Int):List Int×Bool:=match dB l && dB (dV (l ++ [x])) with|false=>([],false)|true=>(dV (l ++ [x]),true)
def nT (a b:List Int):Bool:=dB a && dB b && decide (((List.range 7).filter fun (k:Nat)=>has a ((k:Int)+1) !=has b ((k:Int)+1)).length≤1)
def sI (l yes:List Int):Bool:=dB l && decide (2*((l.filter fun x=>has yes x).length:Int) > (l.length:Int))
def nth (l:List Int) (i:Int):Int:=l.getD i.toNat 0
def sJ (l at_:List Int):Int:=match dB l with
 |false=>0
 |true=>nth (dV (l.map fun x=>if x<(at_.length:Int) then nth at_ x else 0)) (((l.length:Int) - 1).tdiv 2)
structure dI where
 ix:Int
 term:Int
 conf:ByteArray
 data:ByteArray
structure fM where
 term:Int
 vote:Int
structure LogD where
 s:dI
 l:List bY
def zeroSnap:dI:=⟨0,0,⟨#[]⟩,⟨#[]⟩⟩
def gW:Int→Int→List bY→Bool
 |_,_,[]=>true
 |i,t,e::r=>!(e.ix !=w64 (i+1)) && !decide (e.term<t) && gW e.ix e.term r
def cV (x:Int):Bool:=!decide (x<0) && !decide (x > 1099511627776)
def pR (s:dI) (l:List bY):Bool:=cV s.ix && cV s.term && !decide ((l.length:Int) > 200) && gW s.ix s.term l
def LogD.first (l:LogD):Int:=w64 (l.s.ix+1)
def LogD.last (l:LogD):Int:=w64 (l.s.ix+(l.l.length:Int))
def fF:bY:=⟨0,0,0,⟨#[]⟩⟩
def LogD.at (l:LogD) (i:Int):bY:=l.l.getD (w64 (i - l.first)).toNat fF
def LogD.term (l:LogD) (i:Int):Int×Bool:=
 if i<l.s.ix∨l.last<i then (0,false) else if i=l.s.ix then (l.s.term,true) else ((l.at i).term,true)
def LogD.get (l:LogD) (i n:Int):List bY:=
 if i<l.first∨l.last<i∨n<1 then [] else (l.l.drop (w64 (i - l.first)).toNat).take n.toNat
def LogD.fits (l:LogD) (i t:Int):Bool:=(l.term i).2 && ((l.term i).1 == t)
def LogD.skip (l:LogD):List bY→List bY
 | []=>[]
 |e::r=>if e.ix≤l.s.ix∨l.fits e.ix e.term=true then l.skip r else e::r
def LogD.put (l:LogD) (es:List bY):LogD×Int×Bool:=
 match es with
 | []=>(l,0,true)
 |e::r=>
  if w64 (l.last+1)<e.ix∨gW (w64 (e.ix - 1)) e.term (e::r)=false then (l,0,false)
  else match l.skip (e::r) with
   | []=>(l,0,true)
   |x::y=>
    if x.term<(l.term (w64 (x.ix - 1))).1∨200<w64 (w64 (x.ix - l.first)+((x::y).length:Int)) then (l,0,false)
    else (⟨l.s,l.l.take (w64 (x.ix - l.first)).toNat ++ (x::y)⟩,x.ix,true)
def LogD.newer (l:LogD) (i t:Int):Bool:=decide (t > (l.term l.last).1) || (t == (l.term l.last).1) && decide (i≥l.last)
def LogD.pack (l:LogD) (s:dI):LogD×Bool:=
 if s.ix<l.first∨l.fits s.ix s.term=false then (l,false) else (⟨s,l.l.drop (w64 (s.ix - l.s.ix)).toNat⟩,true)
def jV (k:Int):List bY→Option (List Int×Int)
 | []=>none
 |e::r=>match (dL e.data.data.toList).2 && (e.kind == 3) with
  |true=>some ((dL e.data.data.toList).1,k)
  |false=>jV (k - 1) r
def LogD.confAt (l:LogD) (i:Int):List Int×Int:=
 match jV (min i l.last) ((l.l.take (min i l.last - l.s.ix).toNat).reverse) with
 |some x=>x
 |none=>match (dL l.s.conf.data.toList).2 with
  |true=>((dL l.s.conf.data.toList).1,l.s.ix)
  |false=>([],0)
def LogD.conf (l:LogD):List Int×Int:=l.confAt l.last
structure VotesD where
 l:List Int
 yes:List Int
 no:List Int
def jC (l:List Int):VotesD:=⟨match dB l with|true=>l|false=>[],[],[]⟩
def VotesD.may (v:VotesD) (x:Int):Bool:=has v.l x && !has v.yes x && !has v.no x
def VotesD.yesD (v:VotesD) (x:Int):VotesD×Bool:=match v.may x with|true=>(⟨v.l,v.yes ++ [x],v.no⟩,true)|false=>(v,false)
def VotesD.noD (v:VotesD) (x:Int):VotesD×Bool:=match v.may x with|true=>(⟨v.l,v.yes,v.no ++ [x]⟩,true)|false=>(v,false)
def VotesD.won (v:VotesD):Bool:=sI v.l v.yes
def VotesD.lost (v:VotesD):Bool:=decide ((v.l.length:Int) > 0) && decide (w64 (2*w64 ((v.l.length:Int) - (v.no.length:Int)))≤(v.l.length:Int))
structure TrackD where
 next:List Int
 mat:List Int
def lU (last:Int):TrackD:=⟨List.replicate 8 (w64 ((if cV last=true then last else 0)+1)),List.replicate 8 0⟩
def srv (x:Int):Bool:=decide (x≥1) && decide (x≤7)
def TrackD.nextOf (t:TrackD) (x:Int):Int:=match srv x with|true=>nth t.next x|false=>0
def eG (l:List Int) (i x:Int):List Int:=l.set i.toNat x
def TrackD.yesD (t:TrackD) (x i:Int):TrackD×Bool:=
 match srv x && cV i with
 |false=>(t,false)
 |true=>(⟨eG t.next x (max (nth t.next x) (w64 (max (nth t.mat x) i+1))),eG t.mat x (max (nth t.mat x) i)⟩,decide (i > nth t.mat x))
def TrackD.noD (t:TrackD) (x i:Int):TrackD×Bool:=
 match srv x && cV i with
 |false=>(t,false)
 |true=>(⟨eG t.next x (max (min (w64 (nth t.next x - 1)) (w64 (i+1))) (w64 (nth t.mat x+1))),t.mat⟩,max (min (w64 (nth t.next x - 1)) (w64 (i+1))) (w64 (nth t.mat x+1)) !=nth t.next x)
def TrackD.sent (t:TrackD) (x i:Int):TrackD:=
 match srv x && cV i with
 |false=>t
 |true=>⟨eG t.next x (max (nth t.next x) (w64 (i+1))),t.mat⟩
def TrackD.mid (t:TrackD) (l:List Int) (self last:Int):Int:=sJ l (match srv self with|true=>eG t.mat self last|false=>t.mat)
abbrev k5:=Option VotesD
abbrev jW:=Option TrackD
def sK (v:k5) (x:Int):k5:=v.map fun v=>(v.yesD x).1
def sL (v:k5) (x:Int):k5:=v.map fun v=>(v.noD x).1
def k7 (v:k5):Bool:=match v with|none=>false|some v=>v.won
def pS (v:k5):Bool:=match v with|none=>false|some v=>v.lost
def bL (t:jW) (x:Int):Int:=match t with|none=>0|some t=>t.nextOf x
def mQ (t:jW) (x i:Int):jW:=t.map fun t=>t.sent x i
def k8 (t:jW) (l:List Int) (self last:Int):Int:=match t with|none=>0|some t=>t.mid l self last
def gX (t:jW) (x i:Int):jW×Bool:=match t with|none=>(none,false)|some t=>(some (t.noD x i).1,(t.noD x i).2)
def gK (t:jW) (x i:Int):jW×Bool:=match t with|none=>(none,false)|some t=>(some (t.yesD x i).1,(t.yesD x i).2)
structure bF where
 kind:Int
 from_:Int
 to_:Int
 term:Int
 ix:Int
 lterm:Int
 commit:Int
 yes:Bool
 es:List bY
 snap:dI
def cM:bF:=⟨0,0,0,0,0,0,0,false,[],zeroSnap⟩
structure fT where
 msgs:List bF
 hard:Bool
 from_:Int
 snap:Bool
def bW:fT:=⟨[],false,0,false⟩
structure RaftD where
 id:Int
 h:fM
 l:LogD
 commit:Int
 role:Int
 leader:Int
 heard:Bool
 v:k5
 t:jW
 out:fT
def iA (h:fM):Bool:=cV h.term && !decide (h.vote<0) && !decide (h.vote > 7)
def in1 (x:Int):Bool:=!decide (x<1) && !decide (x > 1099511627776)
def eH (e:bY):Bool:=in1 e.ix && in1 e.term && !decide (e.kind<1) && !decide (e.kind > 3) && decide ((e.data.size:Int)≤2500)
def eK (s:dI):Bool:=cV s.ix && cV s.term && decide ((s.conf.size:Int)≤50) && decide ((s.data.size:Int)≤200000)
def pT (s:dI):Bool:=(s.ix == 0) && (s.term == 0) && (s.conf.size == 0) && (s.data.size == 0)
def j9 (m:bF):Int→Int→List bY→Bool
 |_,_,[]=>true
 |i,t,e::r=>!(e.ix !=w64 (i+1)) && !decide (e.term<t) && !decide (e.term > m.term) && eH e && j9 m e.ix e.term r
def nU (m:bF):Bool:=j9 m m.ix m.lterm m.es && decide ((m.es.length:Int)≤8) && (decide ((m.es.length:Int)=0) || m.kind == 3)
def iO (m:bF):Bool:=
 !decide (m.kind<1) && !decide (m.kind > 5) && srv m.from_ && srv m.to_ && in1 m.term && cV m.ix && cV m.lterm && cV m.commit && nU m &&
 !(m.yes && m.kind !=2 && m.kind !=4) &&
 (match m.kind == 5 with
  |false=>pT m.snap
  |true=>(dL m.snap.conf.data.toList).2 && eK m.snap)
namespace RaftD
def hardD (r:RaftD) (h:fM):RaftD:={r with h:=h,out:={r.out with hard:=r.out.hard || !((h.term == r.h.term) && (h.vote == r.h.vote))}}
def yield (r:RaftD) (t:Int):RaftD:={r.hardD ⟨t,0⟩ with role:=0,leader:=0}
def say (r:RaftD) (m:bF):RaftD:={r with out:={r.out with msgs:=r.out.msgs ++ [{m with from_:=r.id,term:=r.h.term}]}}
def others (r:RaftD):List Int:=r.l.conf.1.filter fun x=>x !=r.id
def send (r:RaftD) (to_:Int):RaftD:=
 if bL r.t to_<r.l.first then r.say {cM with kind:=5,to_:=to_,snap:=r.l.s}
 else
  let i:=w64 (bL r.t to_ - 1)
  let es:=r.l.get (bL r.t to_) 8
  {r with t:=mQ r.t to_ (w64 (i+(es.length:Int)))}.say {cM with kind:=3,to_:=to_,ix:=i,lterm:=(r.l.term i).1,es:=es,commit:=r.commit}
def all (r:RaftD):RaftD:=match r.role == 2 with|false=>r|true=>r.others.foldl send r
def changed (r:RaftD) (i:Int):RaftD:=match decide (i > 0) && (r.out.from_ == 0 || decide (i<r.out.from_)) with|true=>{r with out:={r.out with from_:=i}}|false=>r
def put (r:RaftD) (kind:Int) (s:ByteArray):RaftD×Int:=
 let i:=w64 (r.l.last+1)
 let p:=r.l.put [⟨i,r.h.term,kind,s⟩]
 ({r with l:=p.1}.changed p.2.1,i)
def move (r:RaftD):RaftD:=
 let c:=r.l.conf
 let n:=k8 r.t c.1 r.id r.l.last
 if n≤r.commit∨r.l.fits n r.h.term=false then r
 else match !has c.1 r.id && decide (c.2≤n) with
  |true=>{r with commit:=n,role:=0,leader:=0}
  |false=>{r with commit:=n}
def lead (r:RaftD):RaftD:=
 let r:={r with role:=2,leader:=r.id,t:=some (lU r.l.last)}
 let r:=if ((r.l.get r.l.first 200).length:Int)<200 then (r.put 1 ⟨#[]⟩).1 else r
 r.move.all
def asked (r:RaftD) (m:bF):RaftD:=
 match (r.h.vote == 0 || r.h.vote == m.from_) && r.l.newer m.ix m.lterm with
 |true=>{r.hardD ⟨r.h.term,m.from_⟩ with heard:=true}.say {cM with kind:=2,to_:=m.from_,yes:=true}
 |false=>r.say {cM with kind:=2,to_:=m.from_}
def voted (r:RaftD) (m:bF):RaftD:=
 match r.role == 1 with
 |false=>r
 |true=>
  let r:={r with v:=match m.yes with|true=>sK r.v m.from_|false=>sL r.v m.from_}
  match k7 r.v,pS r.v with
  |true,_=>r.lead
  |false,true=>{r with role:=0}
  |false,false=>r
def append (r:RaftD) (m:bF):RaftD:=
 match r.role == 2 with
 |true=>r
 |false=>
  let r:={r with role:=0,leader:=m.from_,heard:=true}
  match !r.l.fits m.ix m.lterm && decide (m.ix≥r.commit) with
  |true=>r.say {cM with kind:=4,to_:=m.from_,ix:=max (min r.l.last (w64 (m.ix - 1))) 0}
  |false=>
   let last:=w64 (m.ix+(m.es.length:Int))
   let p:=r.l.put (m.es.dropWhile fun e=>decide (e.ix≤r.commit))
   let q:={r with l:=p.1}.changed p.2.1
   match p.2.2 with
   |false=>q.say {cM with kind:=4,to_:=m.from_,ix:=q.l.last}
   |true=>{q with commit:=max q.commit (min m.commit last)}.say {cM with kind:=4,to_:=m.from_,yes:=true,ix:=last}
def ack (r:RaftD) (m:bF):RaftD:=
 if r.role≠2∨r.l.last<m.ix then r
 else match m.yes with
  |false=>
   match (gX r.t m.from_ m.ix).2 with
   |true=>{r with t:=(gX r.t m.from_ m.ix).1}.send m.from_
   |false=>{r with t:=(gX r.t m.from_ m.ix).1}
  |true=>
   let q:={r with t:=(gK r.t m.from_ m.ix).1}
   let q:=match (gK r.t m.from_ m.ix).2 with|true=>q.move|false=>q
   match (q.role == 2) && decide (bL q.t m.from_≤q.l.last) with
   |true=>q.send m.from_
   |false=>q
def snapD (r:RaftD) (m:bF):RaftD:=
 match r.role == 2 with
 |true=>r
 |false=>
  let r:={r with role:=0,leader:=m.from_,heard:=true}
  if m.snap.ix≤r.commit then r.say {cM with kind:=4,to_:=m.from_,yes:=true,ix:=r.commit}
  else
   let l:=match (r.l.pack m.snap).2 with|true=>(r.l.pack m.snap).1|false=>⟨m.snap,[]⟩
   {r with l:=l,commit:=m.snap.ix,out:={r.out with snap:=true}}.say {cM with kind:=4,to_:=m.from_,yes:=true,ix:=m.snap.ix}
def did (r:RaftD):RaftD×fT:=({r with out:=bW},r.out)
def step (r:RaftD) (m:bF):RaftD×fT:=
 if iO m=false∨m.to_≠r.id∨m.from_=r.id then (r,bW)
 else if m.term<r.h.term then
  (if m.kind=1 then r.say {cM with kind:=2,to_:=m.from_} else if m.kind=3∨m.kind=5 then r.say {cM with kind:=4,to_:=m.from_} else r).did
 else
  let r:=if r.h.term<m.term then r.yield m.term else r
  (if m.kind=1 then r.asked m else if m.kind=2 then r.voted m else if m.kind=3 then r.append m else if m.kind=4 then r.ack m else r.snapD m).did
def fire (r:RaftD):RaftD×fT:=
 (match r.role == 2,r.heard with
  |true,_=>r.all
  |false,true=>{r with heard:=false}
  |false,false=>
   match has r.l.conf.1 r.id && decide (r.h.term<1099511627776) with
   |false=>r
   |true=>
    let r:={r.hardD ⟨w64 (r.h.term+1),r.id⟩ with role:=1,leader:=0,v:=some ((jC r.l.conf.1).yesD r.id).1}
    match k7 r.v with
    |true=>r.lead
    |false=>r.others.foldl (fun r x=>r.say {cM with kind:=1,to_:=x,ix:=r.l.last,lterm:=(r.l.term r.l.last).1}) r).did
def propose (r:RaftD) (kind:Int) (s:ByteArray):RaftD×Int×fT×Int:=
 if r.role≠2 then (r,0,bW,9)
 else if (kind≠2∧kind≠3)∨2500<(s.size:Int)∨(kind=3∧((dL s.data.toList).2=false∨nT (dL s.data.toList).1 r.l.conf.1=false)) then (r,0,bW,1)
 else if kind=3∧(r.commit<r.l.conf.2∨r.l.fits r.commit r.h.term=false) then (r,0,bW,10)
 else if 200≤((r.l.get r.l.first 200).length:Int) then (r,0,bW,5)
 else
  let p:=r.put kind s
  (p.1.move.all.did.1,p.2,p.1.move.all.did.2,0)
def pack (r:RaftD) (i:Int) (s:ByteArray):RaftD×fT×Bool:=
 if i<r.l.first∨r.commit<i∨200000<(s.size:Int) then (r,bW,false)
 else
  let p:=r.l.pack ⟨i,(r.l.term i).1,⟨(iM (r.l.confAt i).1).toArray⟩,s⟩
  let q:={r with l:=p.1,out:={r.out with snap:=p.2}}.did
  (q.1,q.2,q.2.snap)
end RaftD
def mR (id:Int) (h:fM) (l:LogD) (commit:Int):Option RaftD:=
 if id<1∨7<id∨iA h=false∨commit<l.s.ix∨l.last<commit then none
 else some ⟨id,h,l,commit,0,0,false,none,none,bW⟩
end Go.Proofs.YtgpbngfehfbndaaGreatDoor.Sw
