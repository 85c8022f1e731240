import Derived.Test.YtgpbngfehfbndaaGreatDoorV7
set_option maxHeartbeats 16000000
set_option linter.all false
set_option maxRecDepth 10000
namespace Go.Sx
open Go.RowKit
structure Un where
 n:Nat:=0
 ad:Option Addr:=none
 cap:Nat:=0
 H:Fh:=fun _=>none
 v:Value:= .pointer none
 j:Int:=0
inductive En where
 |c0 (v:Value)
 |c1 (f:Un→Value)
 |c2 (f:Un→Un→Value)
 |c3 (f:Un→Un→Un→Value)
 |c4 (f:Un→Un→Un→Un→Value)
abbrev En.at (x y z t:Un):En→Value
 | .c0 v=>v
 | .c1 f=>f x
 | .c2 f=>f x y
 | .c3 f=>f x y z
 | .c4 f=>f x y z t
def En.cls:En→Nat
 | .c0 _=>0
 | .c1 _=>1
 | .c2 _=>2
 | .c3 _=>3
 | .c4 _=>4
inductive Sp where
 |m (s:Nat)
 |f (lo hi:Nat)
def Sp.cls:Sp→Nat
 | .m s=>s+1
 | .f lo _=>lo
def stg (ms:List Nat) (D:Nat→Bool):Nat:=(ms.takeWhile D).length
def jN (l:List Oper) (ms:List Nat) (sp:List Sp):Bool:=
 sp.length == l.length && Nat.ble ms.length 4 && ms.all (fun m=>Nat.blt m l.length) &&
 (List.range ms.length).all (fun s=>match sp[ms.getD s 0]? with|some (.m s')=>s' == s|_=>false) &&
 (l.zip sp).zipIdx.all fun ((o,p),i)=>
  (match p with
   | .m s=>ms[s]? == some i && (s == 0 || o.after.toList.any fun e=>Region.binds .any e && (match sp[e.on]? with|some q=>Nat.ble s q.cls|none=>false))
   | .f lo hi=>(lo == 0 || o.after.toList.any fun e=>Region.binds .any e && (match sp[e.on]? with|some q=>Nat.ble lo q.cls|none=>false)) && Nat.ble hi ms.length &&
    (hi == ms.length || (l.zip sp).zipIdx.any fun ((o',p'),j)=>Nat.blt i j && o'.after.toList.any (fun e=>Region.binds .any e && e.on == i) && (match p' with| .m s=>Nat.ble s hi| .f _ hi'=>Nat.ble hi' hi)))
theorem lN {l : List Oper} {ms : List Nat} {sp : List Sp} (h : jN l ms sp = true) {i : Nat} {o : Oper} {p : Sp} (ho : l[i]? = some o) (hp : sp[i]? = some p) :
    (match p with
     | .m s => ms[s]? = some i ∧ (s = 0 ∨ ∃ e ∈ o.after.toList, Region.binds .any e = true ∧ ∃ q, sp[e.on]? = some q ∧ s ≤ q.cls)
     | .f lo hi => (lo = 0 ∨ ∃ e ∈ o.after.toList, Region.binds .any e = true ∧ ∃ q, sp[e.on]? = some q ∧ lo ≤ q.cls) ∧ hi ≤ ms.length ∧
        (hi = ms.length ∨ ∃ j o' p', l[j]? = some o' ∧ sp[j]? = some p' ∧ i < j ∧ (∃ e ∈ o'.after.toList, Region.binds .any e = true ∧ e.on = i) ∧ (match p' with | .m s => s ≤ hi | .f _ hi' => hi' ≤ hi))) := by
  unfold jN at h;simp only [Bool.and_eq_true] at h
  have h2 := List.all_eq_true.1 h.2 ((o, p), i) (by
    rw [List.mem_zipIdx_iff_getElem?, List.getElem?_zip_eq_some]
    exact ⟨ho, hp⟩)
  have key : ∀ k : Nat, (o.after.toList.any fun e => Region.binds .any e && (match sp[e.on]? with | some q => Nat.ble k q.cls | none => false)) = true → ∃ e ∈ o.after.toList, Region.binds .any e = true ∧ ∃ q, sp[e.on]? = some q ∧ k ≤ q.cls := by
    intro k hk;obtain ⟨e, he, hb⟩ := List.any_eq_true.1 hk;obtain ⟨hb1, hb2⟩ := Bool.and_eq_true _ _ |>.mp hb;refine ⟨e, he, hb1, ?_⟩;cases hq : sp[e.on]? with
    | none => rw [hq] at hb2; cases hb2
    | some q => rw [hq] at hb2; exact ⟨q, rfl, Nat.le_of_ble_eq_true hb2⟩
  cases p with
  | m s =>
    simp only [Bool.and_eq_true, Bool.or_eq_true, beq_iff_eq] at h2;exact ⟨h2.1, h2.2.imp id (key s)⟩
  | f lo hi =>
    simp only [Bool.and_eq_true, Bool.or_eq_true, beq_iff_eq] at h2;refine ⟨h2.1.1.imp id (key lo), Nat.le_of_ble_eq_true h2.1.2, h2.2.imp id ?_⟩;intro hk;obtain ⟨⟨⟨o', p'⟩, j⟩, hm, hb⟩ := List.any_eq_true.1 hk;rw [List.mem_zipIdx_iff_getElem?, List.getElem?_zip_eq_some] at hm;simp only [Bool.and_eq_true] at hb;refine ⟨j, o', p', hm.1, hm.2, by simpa [Nat.blt_eq] using hb.1.1, ?_, ?_⟩
    · obtain ⟨e, he, h3⟩ := List.any_eq_true.1 hb.1.2
      simp only [Bool.and_eq_true, beq_iff_eq] at h3;exact ⟨e, he, h3.1, h3.2⟩
    · cases p' with
      | m s => exact Nat.le_of_ble_eq_true hb.2
      | f a b => exact Nat.le_of_ble_eq_true hb.2
section
variable {l:List Oper} {ms:List Nat} {sp:List Sp} {D:Nat→Bool}
theorem nL (h:jN l ms sp=true) {s m:Nat} (hm:ms[s]? =some m):m<l.length∧sp[m]? =some (.m s):=by
 unfold jN at h;simp only [Bool.and_eq_true] at h;have hs:=(List.getElem?_eq_some_iff.1 hm).1;refine ⟨by have:=List.all_eq_true.1 h.1.1.2 m (List.mem_of_getElem? hm);simpa [Nat.blt_eq] using this,?_⟩;have:=List.all_eq_true.1 h.1.2 s (List.mem_range.2 hs);rw [show ms.getD s 0=m by rw [List.getD_eq_getElem?_getD,hm];rfl] at this;cases hq:sp[m]? with
 |none=>rw [hq] at this;cases this
 |some q=>
  rw [hq] at this;cases q with
  |m s'=>simp only [beq_iff_eq] at this;rw [this]
  |f a b=>cases this
theorem nM (h:jN l ms sp=true):sp.length=l.length∧ms.length≤4:=by
 unfold jN at h;simp only [Bool.and_eq_true,beq_iff_eq] at h;exact ⟨h.1.1.1.1,Nat.le_of_ble_eq_true h.1.1.1.2⟩
theorem vM (h:jN l ms sp=true) (hf:hJ l=true) (hcl:∀k o',l[k]? =some o'→D k=true→∀e∈o'.after.toList,Region.binds .any e=true→D e.on=true):
  ∀(i:Nat) (p:Sp),sp[i]? =some p→D i=true→∀s m,s<p.cls→ms[s]? =some m→D m=true:=by
 intro i
 induction i using Nat.strongRecOn with
 |_ i ih=>
  intro p hp hD s m hs hm;have hil:i<l.length:=by have:=(List.getElem?_eq_some_iff.1 hp).1;rw [(nM h).1] at this;exact this
  have ho:l[i]? =some l[i]:=List.getElem?_eq_getElem hil;have h2:=lN h ho hp;have go:∀k:Nat,(∃e∈l[i].after.toList,Region.binds .any e=true∧∃q,sp[e.on]? =some q∧k≤q.cls)→s<k→D m=true:=by
   rintro k ⟨e,he,hb,q,hq,hk⟩ hsk;exact ih e.on ((mE hf ho).2 e he hb) q hq (hcl i _ ho hD e he hb) s m (by omega) hm
  cases p with
  |m s'=>
   simp only [Sp.cls] at hs;obtain ⟨h3,h4⟩:=h2
   by_cases e:s=s'
   ·subst e;rw [h3] at hm;obtain rfl:=Option.some.inj hm;exact hD
   ·rcases h4 with h4|h4
    ·omega
    ·exact go s' h4 (by omega)
  |f lo hi=>
   simp only [Sp.cls] at hs;rcases h2.1 with h4|h4
   ·omega
   ·exact go lo h4 hs
theorem aAI (h:jN l ms sp=true) (hcl:∀k o',l[k]? =some o'→D k=true→∀e∈o'.after.toList,Region.binds .any e=true→D e.on=true):
  ∀(d i lo hi:Nat),l.length - i≤d→sp[i]? =some (.f lo hi)→D i=false→hi=ms.length∨∃s m,s≤hi∧ms[s]? =some m∧D m=false
 |0,i,lo,hi,hd,hp,_=>by
  have:=(List.getElem?_eq_some_iff.1 hp).1;rw [(nM h).1] at this;omega
 |d+1,i,lo,hi,hd,hp,hD=>by
  have hil:i<l.length:=by have:=(List.getElem?_eq_some_iff.1 hp).1;rw [(nM h).1] at this;exact this
  have h2:=lN h (List.getElem?_eq_getElem hil) hp;obtain ⟨_,h4,h5⟩:=h2;rcases h5 with h5|⟨j,o',p',hj,hpj,hij,⟨e,he,hb,hei⟩,h6⟩
  ·exact .inl h5
  ·have hDj:D j=false:=by
    cases hq:D j with
    |false=>rfl
    |true=>
     have:=hcl j o' hj hq e he hb;rw [hei,hD] at this;cases this
   cases p' with
   |m s=>
    have:=(lN h hj hpj).1;exact .inr ⟨s,j,h6,this,hDj⟩
   |f lo' hi'=>
    rcases aAI h hcl d j lo' hi' (by omega) hpj hDj with h7|⟨s,m,h7,h8,h9⟩
    ·exact .inl (by have h6:hi'≤hi:=h6;omega)
    ·exact .inr ⟨s,m,by have h6:hi'≤hi:=h6;omega,h8,h9⟩
theorem vN {s m:Nat} (hm:ms[s]? =some m) (hD:D m=false):stg ms D≤s:=by
 unfold stg
 induction ms generalizing s with
 |nil=>simp at hm
 |cons x xs ih=>
  cases s with
  |zero=>
   simp at hm;subst hm;simp [List.takeWhile,hD]
  |succ s=>
   simp only [List.getElem?_cons_succ] at hm;cases hx:D x with
   |false=>simp [List.takeWhile,hx]
   |true=>
    simp only [List.takeWhile,hx,List.length_cons];have:=ih hm;omega
theorem vO {c:Nat} (hc:c≤ms.length) (h:∀s m,s<c→ms[s]? =some m→D m=true):c≤stg ms D:=by
 unfold stg
 induction ms generalizing c with
 |nil=>simp at hc;omega
 |cons x xs ih=>
  cases c with
  |zero=>omega
  |succ c=>
   have hx:=h 0 x (by omega) rfl;simp only [List.takeWhile,hx,List.length_cons];have:=ih (c:=c) (by simpa using hc) (fun s m hs hm=>h (s+1) m (by omega) (by simpa using hm));omega
theorem vP:stg ms D≤ms.length:=by
 unfold stg;exact (List.takeWhile_sublist D).length_le
theorem aEP {s m:Nat} (hs:s<stg ms D) (hm:ms[s]? =some m):D m=true:=by
 unfold stg at hs
 induction ms generalizing s with
 |nil=>simp at hm
 |cons x xs ih=>
  cases hx:D x with
  |false=>simp [List.takeWhile,hx] at hs
  |true=>
   simp only [List.takeWhile,hx,List.length_cons] at hs;cases s with
   |zero=>simp at hm;subst hm;exact hx
   |succ s=>exact ih (s:=s) (by omega) (by simpa using hm)
end
def En.ath (h:Nat→Un) (e:En):Value:=e.at (h 0) (h 1) (h 2) (h 3)
theorem En.ath_congr:∀{e:En} {h h':Nat→Un} (hh:∀j,j<e.cls→h j=h' j),e.ath h=e.ath h'
 | .c0 _,_,_,_=>rfl
 | .c1 f,h,h',hh=>by show f (h 0)=f (h' 0);rw [hh 0 (by show 0<1;decide)]
 | .c2 f,h,h',hh=>by show f (h 0) (h 1)=f (h' 0) (h' 1);rw [hh 0 (by show 0<2;decide),hh 1 (by show 1<2;decide)]
 | .c3 f,h,h',hh=>by show f (h 0) (h 1) (h 2)=f (h' 0) (h' 1) (h' 2);rw [hh 0 (by show 0<3;decide),hh 1 (by show 1<3;decide),hh 2 (by show 2<3;decide)]
 | .c4 f,h,h',hh=>by show f (h 0) (h 1) (h 2) (h 3)=f (h' 0) (h' 1) (h' 2) (h' 3);rw [hh 0 (by show 0<4;decide),hh 1 (by show 1<4;decide),hh 2 (by show 2<4;decide),hh 3 (by show 3<4;decide)]
section
variable (P:Program) (l:List Oper) (E:List En) (L0:List (Nat×Value)) (n:Nat) (w:World) (RR:Nat→(Nat→Un)→List Res) (i:Nat) (o:Oper)
def aEQ (s:Nat):Prop:=∀(h:Nat→Un) (LD:List (Nat×Value)) (a:Act) (W:World),Slots a n (dK l (E.map (En.ath h)) o.after.toList ++ (dC l i L0 ++ LD))→Has 0 w W (RR s h)→
 wpList P l.toArray (fun ex a' W'=>match ex with| .normal=>Slots a' n (entry o ((E[i]?).map (En.ath h)) ++ (dK l (E.map (En.ath h)) o.after.toList ++ (dC l i L0 ++ LD)))∧Has 0 w W' (RR s h)|_=>False) [o] a W
def MnH (s:Nat):Prop:=∀(h:Nat→Un) (LD:List (Nat×Value)) (a:Act) (W:World),Slots a n (dK l (E.map (En.ath h)) o.after.toList ++ (dC l i L0 ++ LD))→Has 0 w W (RR s h)→
 wpList P l.toArray (fun ex a' W'=>match ex with| .normal=>∃x,Slots a' n (entry o ((E[i]?).map (En.ath (d8 h s x))) ++ (dK l (E.map (En.ath h)) o.after.toList ++ (dC l i L0 ++ LD)))∧Has 0 w W' (RR (s+1) (d8 h s x))|_=>False) [o] a W
def ObH:Sp→Prop
 | .f lo hi=>∀s,lo≤s→s≤hi→aEQ P l E L0 n w RR i o s
 | .m s=>MnH P l E L0 n w RR i o s
end
def nN (E:List En) (sp:List Sp):Bool:=E.length == sp.length && (E.zip sp).all fun (e,p)=>Nat.ble e.cls p.cls
theorem vQ {E:List En} {sp:List Sp} (h:nN E sp=true) {i:Nat} {e:En} {p:Sp} (he:E[i]? =some e) (hp:sp[i]? =some p):e.cls≤p.cls:=by
 unfold nN at h;simp only [Bool.and_eq_true] at h
 have:=List.all_eq_true.1 h.2 (e,p) (by
  rw [List.mem_iff_getElem?]
  exact ⟨i,by rw [List.getElem?_zip_eq_some];exact ⟨he,hp⟩⟩)
 exact Nat.le_of_ble_eq_true this
theorem aAJ {α:Type} {p q:α→Bool}:∀{l:List α},(∀x∈l,p x=q x)→l.takeWhile p=l.takeWhile q
 | [],_=>rfl
 |x::l,h=>by
  simp only [List.takeWhile];rw [h x (List.mem_cons_self ..),aAJ (l:=l) fun y hy=>h y (List.mem_cons_of_mem _ hy)]
section
variable {P:Program} {Q:Exit→Act→World→Prop} {n:Nat} {w W:World} {l:List Oper} {L0:List (Nat×Value)} {a:Act}
theorem aER {id:Nat} (E:List En) (RR:Nat→(Nat→Un)→List Res) (ms:List Nat) (sp:List Sp) (hsp:jN l ms sp=true) (hen:nN E sp=true) (hRR:∀s h h',(∀j,j<s→h j=h' j)→RR s h=RR s h') (hs:Slots a n L0) (hw:Has 0 w W (RR 0 fun _=>{})) (hm:P.follows .mixedOrders=true) (hf:hJ l=true) (hn:l.all (fun o=>match o.dst with|some d=>Nat.blt d n|none=>true)=true)
  (ho:∀i o p,l[i]? =some o→sp[i]? =some p→ObH P l E L0 n w RR i o p) (k:∀h a W,Slots a n (fJ l (E.map (En.ath h)) ++ L0)→Has 0 w W (RR ms.length h)→Q .normal a W):(Code.region id l.toArray true).wp P Q a W:=by
 let hh:(Nat→Un)→Nat→Un:=fun u s=>match ms[s]? with|some m=>u m|none=>{}
 have hlen:=nM hsp;have hEl:E.length=l.length:=by
  unfold nN at hen;simp only [Bool.and_eq_true,beq_iff_eq] at hen;omega
 have mH:∀(u:Nat→Un) (i s:Nat) (x:Un),ms[s]? =some i→hh (d8 u i x)=d8 (hh u) s x:=by
  intro u i s x hi;funext j;simp only [hh,d8]
  by_cases e:j=s
  ·subst e;rw [hi,if_pos rfl];simp
  ·rw [if_neg e];cases hj:ms[j]? with
   |none=>rfl
   |some m=>
    have:m≠i:=by
     rintro rfl;have h1:=(nL hsp hj).2;have h2:=(nL hsp hi).2;rw [h1] at h2;simp at h2;exact e h2
    simp [this]
 have same:∀(u:Nat→Un) (i:Nat) (x:Un) (lo hi:Nat),sp[i]? =some (.f lo hi)→hh (d8 u i x)=hh u:=by
  intro u i x lo hi hi';funext j;simp only [hh,d8];cases hj:ms[j]? with
  |none=>rfl
  |some m=>
   have:m≠i:=by
    rintro rfl;have h1:=(nL hsp hj).2;rw [h1] at hi';cases hi'
   simp [this]
 refine zQ (σ:=Un) (G:=0) (w:=w) (V:=fun u=>E.map (En.ath (hh u))) (Rs:=fun u D=>RR (stg ms D) (hh u)) id (fun _=>{}) hm hf (fun u=>by rw [List.length_map,hEl]) ?_ hs hn ?_ ?_ ?_
 ·
  intro u D i x j hcl hDi hDj;simp only [List.getElem?_map];cases hEj:E[j]? with
  |none=>rfl
  |some e=>
   have hjl:j<sp.length:=by have:=(List.getElem?_eq_some_iff.1 hEj).1;omega
   have hpj:sp[j]? =some sp[j]:=List.getElem?_eq_getElem hjl;have hc:=vQ hen hEj hpj;simp only [Option.map_some,Option.some.injEq];refine En.ath_congr fun s hs=>?_;simp only [hh];cases hm:ms[s]? with
   |none=>rfl
   |some m=>
    have:=vM hsp hf hcl j _ hpj hDj s m (by omega) hm;have hne:m≠i:=by rintro rfl;rw [hDi] at this;cases this
    simp [d8,hne]
 ·have h0:stg ms (fun _=>false)=0:=by
   unfold stg;cases ms with
   |nil=>rfl
   |cons x xs=>simp [List.takeWhile]
  show Has 0 w W (RR (stg ms fun _=>false) _);rw [h0,hRR 0 _ (fun _=>{}) (fun j hj=>by omega)];exact hw
 ·
  have all:∀(os:List Oper) (i:Nat),(∀j o,os[j]? =some o→l[i+j]? =some o)→AllOwed P l (fun u=>E.map (En.ath (hh u))) L0 n 0 w (fun u D=>RR (stg ms D) (hh u)) i os:=by
   intro os
   induction os with
   |nil=>intro i _;trivial
   |cons o os ih=>
    intro i hl;refine ⟨?_,ih (i+1) fun j o' hj=>by rw [Nat.add_assoc,Nat.add_comm 1 j];exact hl (j+1) o' (by simpa using hj)⟩;have hio:l[i]? =some o:=by have:=hl 0 o rfl;simpa using this
    have hil:=(List.getElem?_eq_some_iff.1 hio).1;have hpi:sp[i]? =some (sp[i]'(by omega)):=List.getElem?_eq_getElem (by omega);generalize sp[i]'(by omega)=p at hpi;have hob:=ho i o p hio hpi;intro u LD D a W hcl hDi hp hs hw;have hat:=lN hsp hio hpi;have uL:∀k,k≤ms.length→(k=0∨∃e∈o.after.toList,Region.binds .any e=true∧∃q,sp[e.on]? =some q∧k≤q.cls)→k≤stg ms D:=by
     rintro k hk (rfl|⟨e,he,hb,q,hq,hkq⟩)
     ·exact Nat.zero_le _
     ·exact vO hk fun s m hs hm=>vM hsp hf hcl e.on q hq (hp e he hb) s m (by omega) hm
    cases p with
    |f lo hi=>
     obtain ⟨h1,h2,h3⟩:=hat;have hs1:stg ms D≤hi:=by
      rcases aAI hsp hcl _ i lo hi (Nat.le_refl _) hpi hDi with h4|⟨s,m,h4,h5,h6⟩
      ·rw [h4];exact vP
      ·exact Nat.le_trans (vN h5 h6) h4
     have hs0:lo≤stg ms D:=by
      rcases h1 with h1|⟨e,he,hb,q,hq,hkq⟩
      ·omega
      ·by_cases hlm:lo≤ms.length
       ·exact uL lo hlm (.inr ⟨e,he,hb,q,hq,hkq⟩)
       ·exfalso;have cl:∀(j:Nat) (q:Sp),sp[j]? =some q→q.cls≤ms.length:=by
         intro j
         induction j using Nat.strongRecOn with
         |_ j ihj=>
          intro q hq;have hjl:j<l.length:=by have:=(List.getElem?_eq_some_iff.1 hq).1;omega
          have h9:=lN hsp (List.getElem?_eq_getElem hjl) hq;cases q with
          |m s=>have:=(List.getElem?_eq_some_iff.1 h9.1).1;exact this
          |f lo' hi'=>
           rcases h9.1 with h9|⟨e',he',hb',q',hq',hk'⟩
           ·simp [Sp.cls];omega
           ·have:=ihj e'.on ((mE hf (List.getElem?_eq_getElem hjl)).2 e' he' hb') q' hq';simp only [Sp.cls];omega
        have:=cl e.on q hq;omega
     have h5:=hob (stg ms D) hs0 hs1 (hh u) LD a W hs hw;have hD':stg ms (fun j=>Nat.beq j i || D j)=stg ms D:=by
      unfold stg;rw [aAJ (q:=D) fun m hm=>?_];obtain ⟨s,hs⟩:=List.mem_iff_getElem?.1 hm;have h6:=(nL hsp hs).2;have:Nat.beq m i=false:=by
       cases hq:Nat.beq m i with
       |false=>rfl
       |true=>
        have:=Nat.eq_of_beq_eq_true hq;subst this;rw [hpi] at h6;cases h6
      rw [this,Bool.false_or]
     refine mergeL (fun a' W' h=>?_) (show wpList P l.toArray (Calm _) [o] a W from h5);obtain ⟨h6,h7⟩:=h;refine ⟨u i,?_,?_⟩
     ·rw [u5];simp only [List.getElem?_map];exact h6
     ·rw [u5];show Has 0 w W' (RR (stg ms fun j=>Nat.beq j i || D j) (hh u));rw [hD'];exact h7
    |m s=>
     obtain ⟨h1,h2⟩:=hat;have hsl:=(List.getElem?_eq_some_iff.1 h1).1;have hs0:s≤stg ms D:=uL s (by omega) h2;have hs1:stg ms D≤s:=vN h1 hDi;have hst:stg ms D=s:=by omega
     have hw':Has 0 w W (RR s (hh u)):=by rw [←hst];exact hw
     have h5:=hob (hh u) LD a W hs hw';have hD':stg ms (fun j=>Nat.beq j i || D j)=s+1:=by
      have g1:s+1≤stg ms (fun j=>Nat.beq j i || D j):=by
       refine vO (by omega) fun s' m hs' hm=>?_
       by_cases e:s'=s
       ·subst e;rw [h1] at hm;obtain rfl:=Option.some.inj hm;simp
       ·simp only [aEP (by rw [hst];omega) hm,Bool.or_true]
      have g2:stg ms (fun j=>Nat.beq j i || D j)≤s+1:=by
       cases hm:ms[s+1]? with
       |none=>
        have:=vP (ms:=ms) (D:=fun j=>Nat.beq j i || D j);have:ms.length≤s+1:=List.getElem?_eq_none_iff.1 hm;omega
       |some m=>
        refine vN hm ?_;have hm2:=(nL hsp hm).2;have hne:Nat.beq m i=false:=by
         cases hq:Nat.beq m i with
         |false=>rfl
         |true=>
          have:=Nat.eq_of_beq_eq_true hq;subst this;rw [hpi] at hm2;have h8:s=s+1:=by injection hm2 with h8;injection h8
          omega
        have hDm:D m=false:=by
         cases hq:D m with
         |false=>rfl
         |true=>
          have:=vM hsp hf hcl m _ hm2 hq s i (by show s<s+1+1;omega) h1;rw [hDi] at this;cases this
        rw [hne,hDm];rfl
      omega
     refine mergeL (fun a' W' h=>?_) (show wpList P l.toArray (Calm _) [o] a W from h5);obtain ⟨x,h6,h7⟩:=h;refine ⟨x,?_,?_⟩
     ·simp only [List.getElem?_map];rw [mH u i s x h1];exact h6
     ·show Has 0 w W' (RR (stg ms fun j=>Nat.beq j i || D j) (hh (d8 u i x)));rw [hD',mH u i s x h1];exact h7
  exact all l 0 fun j o h=>by simpa using h
 ·intro u a W hs hw;refine k (hh u) a W hs ?_;have:stg ms (fun j=>Nat.blt j l.length)=ms.length:=by
   have g1:=vP (ms:=ms) (D:=fun j=>Nat.blt j l.length);have g2:=vO (ms:=ms) (D:=fun j=>Nat.blt j l.length) (Nat.le_refl _) fun s m _ hm=>by
    have:=(nL hsp hm).1;simpa [Nat.blt_eq] using this
   omega
  rw [←this];exact hw
end
def atL (x y z t:Un):List En→List Value
 | []=>[]
 | .c0 v::l=>v::atL x y z t l
 | .c1 f::l=>f x::atL x y z t l
 | .c2 f::l=>f x y::atL x y z t l
 | .c3 f::l=>f x y z::atL x y z t l
 | .c4 f::l=>f x y z t::atL x y z t l
theorem hQ (x y z t:Un):∀E:List En,atL x y z t E=E.map (En.at x y z t)
 | []=>rfl
 | .c0 v::l=>by rw [atL,hQ x y z t l];rfl
 | .c1 f::l=>by rw [atL,hQ x y z t l];rfl
 | .c2 f::l=>by rw [atL,hQ x y z t l];rfl
 | .c3 f::l=>by rw [atL,hQ x y z t l];rfl
 | .c4 f::l=>by rw [atL,hQ x y z t l];rfl
section
variable (P:Program) (l:List Oper) (E:List En) (L0:List (Nat×Value)) (n:Nat) (w:World) (i:Nat) (o:Oper)
def aES (R:Un→Un→Un→Un→List Res):Prop:=∀(x y z t:Un) (LD:List (Nat×Value)) (a:Act) (W:World),Slots a n (dK l (E.map (En.at x y z t)) o.after.toList ++ (dC l i L0 ++ LD))→Has 0 w W (R x y z t)→
 wpList P l.toArray (fun ex a' W'=>match ex with| .normal=>Slots a' n (entry o ((E[i]?).map (En.at x y z t)) ++ (dK l (E.map (En.at x y z t)) o.after.toList ++ (dC l i L0 ++ LD)))∧Has 0 w W' (R x y z t)|_=>False) [o] a W
def MnM (f:Un→Un→Un→Un→Un→Un×Un×Un×Un) (R R':Un→Un→Un→Un→List Res):Prop:=∀(x y z t:Un) (LD:List (Nat×Value)) (a:Act) (W:World),Slots a n (dK l (E.map (En.at x y z t)) o.after.toList ++ (dC l i L0 ++ LD))→Has 0 w W (R x y z t)→
 wpList P l.toArray (fun ex a' W'=>match ex with| .normal=>∃u,Slots a' n (entry o ((E[i]?).map (En.at (f x y z t u).1 (f x y z t u).2.1 (f x y z t u).2.2.1 (f x y z t u).2.2.2)) ++ (dK l (E.map (En.at x y z t)) o.after.toList ++ (dC l i L0 ++ LD)))∧Has 0 w W' (R' (f x y z t u).1 (f x y z t u).2.1 (f x y z t u).2.2.1 (f x y z t u).2.2.2)|_=>False) [o] a W
def Flt (R:Un→Un→Un→Un→List Res):Prop:=∀(x y z t:Un) (LD:List (Nat×Value)) (a:Act) (W:World),Slots a n (dK l (atL x y z t E) o.after.toList ++ (dC l i L0 ++ LD))→Has 0 w W (R x y z t)→
 wpList P l.toArray (fun ex a' W'=>match ex with| .normal=>Slots a' n (entry o (atL x y z t E)[i]? ++ (dK l (atL x y z t E) o.after.toList ++ (dC l i L0 ++ LD)))∧Has 0 w W' (R x y z t)|_=>False) [o] a W
def Mn (f:Un→Un→Un→Un→Un→Un×Un×Un×Un) (R R':Un→Un→Un→Un→List Res):Prop:=∀(x y z t:Un) (LD:List (Nat×Value)) (a:Act) (W:World),Slots a n (dK l (atL x y z t E) o.after.toList ++ (dC l i L0 ++ LD))→Has 0 w W (R x y z t)→
 wpList P l.toArray (fun ex a' W'=>match ex with| .normal=>∃u,Slots a' n (entry o (atL (f x y z t u).1 (f x y z t u).2.1 (f x y z t u).2.2.1 (f x y z t u).2.2.2 E)[i]? ++ (dK l (atL x y z t E) o.after.toList ++ (dC l i L0 ++ LD)))∧Has 0 w W' (R' (f x y z t u).1 (f x y z t u).2.1 (f x y z t u).2.2.1 (f x y z t u).2.2.2)|_=>False) [o] a W
theorem pA {P:Program} {l:List Oper} {E:List En} {L0:List (Nat×Value)} {n:Nat} {w:World} {i:Nat} {o:Oper} {R:Un→Un→Un→Un→List Res} (h:Flt P l E L0 n w i o R):aES P l E L0 n w i o R:=by
 intro x y z t LD a W hs hw;have h2:=h x y z t LD a W (by rw [hQ];exact hs) hw;simp only [hQ,List.getElem?_map] at h2;exact h2
theorem rV {P:Program} {l:List Oper} {E:List En} {L0:List (Nat×Value)} {n:Nat} {w:World} {i:Nat} {o:Oper} {f:Un→Un→Un→Un→Un→Un×Un×Un×Un} {R R':Un→Un→Un→Un→List Res} (h:Mn P l E L0 n w i o f R R'):MnM P l E L0 n w i o f R R':=by
 intro x y z t LD a W hs hw;have h2:=h x y z t LD a W (by rw [hQ];exact hs) hw;simp only [hQ,List.getElem?_map] at h2;exact h2
def Stg (lo hi s:Nat) (p:Prop):Prop:=match Nat.ble lo s && Nat.ble s hi with|true=>p|false=>True
variable (R0:List Res) (R1:Un→List Res) (R2:Un→Un→List Res) (R3:Un→Un→Un→List Res) (R4:Un→Un→Un→Un→List Res)
def aAK:Sp→Prop
 | .f lo hi=>Stg lo hi 0 (Flt P l E L0 n w i o fun _ _ _ _=>R0)∧Stg lo hi 1 (Flt P l E L0 n w i o fun x _ _ _=>R1 x)∧Stg lo hi 2 (Flt P l E L0 n w i o fun x y _ _=>R2 x y)∧Stg lo hi 3 (Flt P l E L0 n w i o fun x y z _=>R3 x y z)∧Stg lo hi 4 (Flt P l E L0 n w i o R4)
 | .m 0=>Mn P l E L0 n w i o (fun x y z t u=>(u,y,z,t)) (fun _ _ _ _=>R0) (fun x _ _ _=>R1 x)
 | .m 1=>Mn P l E L0 n w i o (fun x y z t u=>(x,u,z,t)) (fun x _ _ _=>R1 x) (fun x y _ _=>R2 x y)
 | .m 2=>Mn P l E L0 n w i o (fun x y z t u=>(x,y,u,t)) (fun x y _ _=>R2 x y) (fun x y z _=>R3 x y z)
 | .m _=>Mn P l E L0 n w i o (fun x y z t u=>(x,y,z,u)) (fun x y z _=>R3 x y z) R4
def vR:Nat→List Oper→List Sp→Prop
 |i,o::os,p::ps=>aAK P l E L0 n w i o R0 R1 R2 R3 R4 p∧vR (i+1) os ps
 |_,_,_=>True
def Rst (s:Nat) (h:Nat→Un):List Res:=match s with
 |0=>R0
 |1=>R1 (h 0)
 |2=>R2 (h 0) (h 1)
 |3=>R3 (h 0) (h 1) (h 2)
 |_=>R4 (h 0) (h 1) (h 2) (h 3)
variable (Q:Exit→Act→World→Prop)
def StK:List Nat→Prop
 | []=>∀a W,Slots a n (fJ l (atL {} {} {} {} E) ++ L0)→Has 0 w W R0→Q .normal a W
 | [_]=>∀x a W,Slots a n (fJ l (atL x {} {} {} E) ++ L0)→Has 0 w W (R1 x)→Q .normal a W
 | [_,_]=>∀x y a W,Slots a n (fJ l (atL x y {} {} E) ++ L0)→Has 0 w W (R2 x y)→Q .normal a W
 | [_,_,_]=>∀x y z a W,Slots a n (fJ l (atL x y z {} E) ++ L0)→Has 0 w W (R3 x y z)→Q .normal a W
 |_=>∀x y z t a W,Slots a n (fJ l (atL x y z t E) ++ L0)→Has 0 w W (R4 x y z t)→Q .normal a W
end
section
variable {P:Program} {Q:Exit→Act→World→Prop} {n:Nat} {w W:World} {l:List Oper} {L0:List (Nat×Value)} {a:Act} {E:List En} {R0:List Res} {R1:Un→List Res} {R2:Un→Un→List Res} {R3:Un→Un→Un→List Res} {R4:Un→Un→Un→Un→List Res}
theorem aET {s:Nat} {h h':Nat→Un} (hh:∀j,j<s→h j=h' j):Rst R0 R1 R2 R3 R4 s h=Rst R0 R1 R2 R3 R4 s h':=by
 match s with
 |0=>rfl
 |1=>show R1 (h 0)=R1 (h' 0);rw [hh 0 (by decide)]
 |2=>show R2 (h 0) (h 1)=R2 (h' 0) (h' 1);rw [hh 0 (by decide),hh 1 (by decide)]
 |3=>show R3 (h 0) (h 1) (h 2)=R3 (h' 0) (h' 1) (h' 2);rw [hh 0 (by decide),hh 1 (by decide),hh 2 (by decide)]
 |s+4=>show R4 (h 0) (h 1) (h 2) (h 3)=R4 (h' 0) (h' 1) (h' 2) (h' 3);rw [hh 0 (by omega),hh 1 (by omega),hh 2 (by omega),hh 3 (by omega)]
theorem aEU {ms:List Nat} {sp:List Sp} (h:jN l ms sp=true) (hf:hJ l=true):∀(j:Nat) (q:Sp),sp[j]? =some q→q.cls≤ms.length:=by
 intro j;have hlen:=nM h
 induction j using Nat.strongRecOn with
 |_ j ihj=>
  intro q hq;have hjl:j<l.length:=by have:=(List.getElem?_eq_some_iff.1 hq).1;omega
  have h9:=lN h (List.getElem?_eq_getElem hjl) hq;cases q with
  |m s=>have:=(List.getElem?_eq_some_iff.1 h9.1).1;exact this
  |f lo' hi'=>
   rcases h9.1 with h9|⟨e',he',hb',q',hq',hk'⟩
   ·simp [Sp.cls];omega
   ·have:=ihj e'.on ((mE hf (List.getElem?_eq_getElem hjl)).2 e' he' hb') q' hq';simp only [Sp.cls];omega
theorem pB {lo hi s:Nat} {p:Prop} (h:Stg lo hi s p) (h1:lo≤s) (h2:s≤hi):p:=by
 unfold Stg at h;rw [Nat.ble_eq_true_of_le h1,Nat.ble_eq_true_of_le h2] at h;exact h
theorem bB {id:Nat} (ms:List Nat) (sp:List Sp) (E:List En) (R0:List Res) (R1:Un→List Res) (R2:Un→Un→List Res) (R3:Un→Un→Un→List Res) (R4:Un→Un→Un→Un→List Res) (hs:Slots a n L0) (hw:Has 0 w W R0) (k:StK l E L0 n w R0 R1 R2 R3 R4 Q ms)
  (ho:vR P l E L0 n w R0 R1 R2 R3 R4 0 l sp) (hsp:jN l ms sp=true:=by kernel_rfl) (hen:nN E sp=true:=by with_unfolding_all exact rfl) (hm:P.follows .mixedOrders=true:=by kernel_rfl) (hf:hJ l=true:=by kernel_rfl) (hn:l.all (fun o=>match o.dst with|some d=>Nat.blt d n|none=>true)=true:=by kernel_rfl):(Code.region id l.toArray true).wp P Q a W:=by
 have hlen:=nM hsp;have at_:∀(os:List Oper) (ps:List Sp) (i:Nat),vR P l E L0 n w R0 R1 R2 R3 R4 i os ps→∀(j:Nat) (o:Oper) (p:Sp),os[j]? =some o→ps[j]? =some p→aAK P l E L0 n w (i+j) o R0 R1 R2 R3 R4 p:=by
  intro os
  induction os with
  |nil=>intro ps i _ j o p h;simp at h
  |cons o os ih=>
   intro ps i h j o' p' ho' hp';cases ps with
   |nil=>simp at hp'
   |cons p ps=>
    obtain ⟨h1,h2⟩:=h;cases j with
    |zero=>
     simp at ho' hp';subst ho' hp';exact h1
    |succ j=>
     have:=ih ps (i+1) h2 j o' p' (by simpa using ho') (by simpa using hp');rwa [Nat.add_assoc,Nat.add_comm 1 j] at this
 refine aER E (fun s h=>Rst R0 R1 R2 R3 R4 s h) ms sp hsp hen (fun s h h' hh=>aET hh) hs hw hm hf hn (fun i o p hio hp=>?_) (fun h a W hs hw=>?_)
 ·have h0:=at_ l sp 0 ho i o p hio hp;rw [Nat.zero_add] at h0;cases p with
  |f lo hi=>
   obtain ⟨h1,h2,h3,h4,h5⟩:=h0;intro s hs1 hs2
   match s with
   |0=>exact fun h LD a W hs hw=>pA (pB h1 hs1 hs2) (h 0) (h 1) (h 2) (h 3) LD a W hs hw
   |1=>exact fun h LD a W hs hw=>pA (pB h2 hs1 hs2) (h 0) (h 1) (h 2) (h 3) LD a W hs hw
   |2=>exact fun h LD a W hs hw=>pA (pB h3 hs1 hs2) (h 0) (h 1) (h 2) (h 3) LD a W hs hw
   |3=>exact fun h LD a W hs hw=>pA (pB h4 hs1 hs2) (h 0) (h 1) (h 2) (h 3) LD a W hs hw
   |4=>exact fun h LD a W hs hw=>pA (pB h5 hs1 hs2) (h 0) (h 1) (h 2) (h 3) LD a W hs hw
   |s+5=>
    exfalso;have:=lN hsp hio hp;have h9:=this.2.1;omega
  |m s=>
   have h9:=(lN hsp hio hp).1;have hsl:=(List.getElem?_eq_some_iff.1 h9).1;have hc:∀e,E[i]? =some e→e.cls≤s+1:=fun e he=>vQ hen he hp;have up:∀(h h':Nat→Un),(∀j,j<s+1→h j=h' j)→(E[i]?).map (En.ath h)=(E[i]?).map (En.ath h'):=by
    intro h h' hh;cases he:E[i]? with
    |none=>rfl
    |some e=>
     simp only [Option.map_some,Option.some.injEq];exact En.ath_congr fun j hj=>hh j (by have:=hc e he;omega)
   match s,hsl,up,h0 with
   |0,_,up,h0=>exact fun h LD a W hs hw=>rV (f:=fun x y z t u=>(u,y,z,t)) (R:=fun _ _ _ _=>R0) (R':=fun x _ _ _=>R1 x) h0 (h 0) (h 1) (h 2) (h 3) LD a W hs hw
   |1,_,up,h0=>exact fun h LD a W hs hw=>rV (f:=fun x y z t u=>(x,u,z,t)) (R:=fun x _ _ _=>R1 x) (R':=fun x y _ _=>R2 x y) h0 (h 0) (h 1) (h 2) (h 3) LD a W hs hw
   |2,_,up,h0=>exact fun h LD a W hs hw=>rV (f:=fun x y z t u=>(x,y,u,t)) (R:=fun x y _ _=>R2 x y) (R':=fun x y z _=>R3 x y z) h0 (h 0) (h 1) (h 2) (h 3) LD a W hs hw
   |3,_,up,h0=>exact fun h LD a W hs hw=>rV (f:=fun x y z t u=>(x,y,z,u)) (R:=fun x y z _=>R3 x y z) (R':=R4) h0 (h 0) (h 1) (h 2) (h 3) LD a W hs hw
   |s+4,hsl,_,_=>exact absurd hlen.2 (by omega)
 ·have fin:∀(h h':Nat→Un),(∀j,j<ms.length→h j=h' j)→E.map (En.ath h)=E.map (En.ath h'):=by
   intro h h' hh;apply List.ext_getElem?;intro i;rw [List.getElem?_map,List.getElem?_map];cases he:E[i]? with
   |none=>rfl
   |some e=>
    simp only [Option.map_some,Option.some.injEq];have hil:i<sp.length:=by
     have h1:=(List.getElem?_eq_some_iff.1 he).1;unfold nN at hen;simp only [Bool.and_eq_true,beq_iff_eq] at hen;omega
    have hpi:sp[i]? =some sp[i]:=List.getElem?_eq_getElem hil;have h2:=vQ hen he hpi;have h3:=aEU hsp hf i _ hpi;exact En.ath_congr fun j hj=>hh j (by omega)
  match ms,hlen,fin,k,hw with
  | [],_,fin,k,hw=>exact k a W (by rw [hQ];rw [fin h (fun _=>{}) (fun j hj=>by simp at hj)] at hs;exact hs) hw
  | [_],_,fin,k,hw=>exact k (h 0) a W (by rw [hQ];rw [fin h (fun|0=>h 0|_=>{}) (fun j hj=>by match j,hj with|0,_=>rfl)] at hs;exact hs) hw
  | [_,_],_,fin,k,hw=>exact k (h 0) (h 1) a W (by rw [hQ];rw [fin h (fun|0=>h 0|1=>h 1|_=>{}) (fun j hj=>by match j,hj with|0,_=>rfl|1,_=>rfl)] at hs;exact hs) hw
  | [_,_,_],_,fin,k,hw=>exact k (h 0) (h 1) (h 2) a W (by rw [hQ];rw [fin h (fun|0=>h 0|1=>h 1|2=>h 2|_=>{}) (fun j hj=>by match j,hj with|0,_=>rfl|1,_=>rfl|2,_=>rfl)] at hs;exact hs) hw
  | [_,_,_,_],_,fin,k,hw=>exact k (h 0) (h 1) (h 2) (h 3) a W (by rw [hQ];exact hs) hw
  |_::_::_::_::_::_,hlen,_,_,_=>simp at hlen
end
section
variable {P:Program} {ops:Array Oper} {rest:List Oper} {Q:Exit→Act→World→Prop} {a:Act} {n:Nat} {L:List (Nat×Value)} {W:World} {d:Nat} {T:TypeId} {p:String} {e:Array Edge} {x y:Operand} {i j:Int} {q q':IntKind}
theorem kT {ts:Array TypeId} (hs:Slots a n L) (k:∀a',Slots a' n ((d,.int q (min i j))::L)→wpList P ops Q rest a' W) (hx:ev L x=some (.int q i):=by with_unfolding_all exact rfl) (hy:ev L y=some (.int q' j):=by with_unfolding_all exact rfl) (hd:Nat.blt d n=true:=by with_unfolding_all exact rfl):wpList P ops Q (⟨some d,.call {callee:= .builtin .min,args:=#[x,y],argTypes:=ts},T,p,e,none⟩::rest) a W:=
 o7 hs hx hy hd fun a' h=>k a' (by rw [show (if j<i then j else i)=min i j by rw [Int.min_def];split <;> split <;> omega] at h;exact h)
theorem kU {ts:Array TypeId} (hs:Slots a n L) (k:∀a',Slots a' n ((d,.int q (max i j))::L)→wpList P ops Q rest a' W) (hx:ev L x=some (.int q i):=by with_unfolding_all exact rfl) (hy:ev L y=some (.int q' j):=by with_unfolding_all exact rfl) (hd:Nat.blt d n=true:=by with_unfolding_all exact rfl):wpList P ops Q (⟨some d,.call {callee:= .builtin .max,args:=#[x,y],argTypes:=ts},T,p,e,none⟩::rest) a W:=
 bP hs hd (v:= .int q (max i j)) (W':=W) (by
  have h:(if i<j then j else i)=max i j:=by rw [Int.max_def];split <;> split <;> omega
  rw [←h]
  simp only [execOp,resolve,invoke,builtin,List.map_toArray,List.map_cons,List.map_nil,hs.ev hx,hs.ev hy,Sem.run_bind,Sem.run_pure,Result.andThen_ok,run_max_int2]) k
end
theorem drs {A B C D E : Prop} (h : A ∧ B ∧ C ∧ D ∧ E := by
    refine ⟨?_, ?_, ?_, ?_, ?_⟩ <;> first
      | exact trivial
      | (intro x y z t LD a W hs hw
         repeat (first | (refine sxv hs hw ?_; intro a hs) | refine sxc hs ?_ | (refine sxs hs hw ?_; intro W hs hw) | (refine kS hs hw ?_; intro a W hs hw) | ((with_reducible first | refine gD hs (k := ?_) | refine gE hs (k := ?_) | refine jL hs (k := ?_) | refine jM hs (k := ?_)); intro a hs) | (refine kT hs ?_; intro a hs) | (refine kU hs ?_; intro a hs) | (refine eL hs (h0 := hk0) (h1 := hk1) (c := ?_); intro a hs) | (refine eL hs (h0 := hk2) (h1 := hk3) (c := ?_); intro a hs) | (refine lM hs (h0 := hj0) (h1 := hj1) (c := ?_); intro a hs) | (refine gC hs (hw := hw) (hi := In.hd) (hv := hl1) (k := ?_); intro a hs) | (refine gC hs (hw := hw) (hi := In.hd) (hv := hl2) (k := ?_); intro a hs) | (refine d7 hs (hw := hw) (hl := hl3) (k := ?_); intro W hs hw) | (refine d7 hs (hw := hw) (hl := hl4) (k := ?_); intro W hs hw))
         exact ⟨hs, hw⟩)) : A ∧ B ∧ C ∧ D ∧ E := h
theorem drm {A:Prop} (h:A:=by
  intro x y z t LD a W hs hw
  repeat (first|(refine sxv hs hw ?_;intro a hs)|refine sxc hs ?_|(refine sxs hs hw ?_;intro W hs hw)|(refine kS hs hw ?_;intro a W hs hw)|((with_reducible first|refine gD hs (k:=?_)|refine gE hs (k:=?_)|refine jL hs (k:=?_)|refine jM hs (k:=?_));intro a hs)|(refine kT hs ?_;intro a hs)|(refine kU hs ?_;intro a hs)|(refine eL hs (h0:=hk0) (h1:=hk1) (c:=?_);intro a hs)|(refine eL hs (h0:=hk2) (h1:=hk3) (c:=?_);intro a hs)|(refine lM hs (h0:=hj0) (h1:=hj1) (c:=?_);intro a hs)|(refine gC hs (hw:=hw) (hi:=In.hd) (hv:=hl1) (k:=?_);intro a hs)|(refine gC hs (hw:=hw) (hi:=In.hd) (hv:=hl2) (k:=?_);intro a hs)|(refine d7 hs (hw:=hw) (hl:=hl3) (k:=?_);intro W hs hw)|(refine d7 hs (hw:=hw) (hl:=hl4) (k:=?_);intro W hs hw))
  exact ⟨{},hs,hw⟩):A:=h
theorem drn {A:Prop} (h:A:=by
  intro x y z t LD a W hs hw;refine sn hs hw fun b a W hs hw=>?_
  exact ⟨{n:=b},hs,hw⟩):A:=h
theorem sw {P:Program} {A:Prop} {a:Act} {n:Nat} {L L':List (Nat×Value)} {w W:World} {R R':List Res} {C:Act→World→Prop} (hs:Slots a n L) (hw:Has 0 w W R) (k:∀a' W',Slots a' n L'→Has 0 w W' R'→C a' W') (h:(∀a' W',Slots a' n L'→Has 0 w W' R'→C a' W')→A:=by
  intro k
  (first|(refine sxv hs hw ?_;intro a hs)|refine sxc hs ?_|(refine sxs hs hw ?_;intro W hs hw)|(refine kS hs hw ?_;intro a W hs hw)|((with_reducible first|refine gD hs (k:=?_)|refine gE hs (k:=?_)|refine jL hs (k:=?_)|refine jM hs (k:=?_));intro a hs)|(refine kT hs ?_;intro a hs)|(refine kU hs ?_;intro a hs)|(refine eL hs (h0:=hk0) (h1:=hk1) (c:=?_);intro a hs)|(refine eL hs (h0:=hk2) (h1:=hk3) (c:=?_);intro a hs)|(refine lM hs (h0:=hj0) (h1:=hj1) (c:=?_);intro a hs)|(refine gC hs (hw:=hw) (hi:=In.hd) (hv:=hl1) (k:=?_);intro a hs)|(refine gC hs (hw:=hw) (hi:=In.hd) (hv:=hl2) (k:=?_);intro a hs)|(refine d7 hs (hw:=hw) (hl:=hl3) (k:=?_);intro W hs hw)|(refine d7 hs (hw:=hw) (hl:=hl4) (k:=?_);intro W hs hw))
  repeat (first|(refine sxv hs hw ?_;intro a hs)|refine sxc hs ?_|(refine sxs hs hw ?_;intro W hs hw)|(refine kS hs hw ?_;intro a W hs hw)|((with_reducible first|refine gD hs (k:=?_)|refine gE hs (k:=?_)|refine jL hs (k:=?_)|refine jM hs (k:=?_));intro a hs)|(refine kT hs ?_;intro a hs)|(refine kU hs ?_;intro a hs)|(refine eL hs (h0:=hk0) (h1:=hk1) (c:=?_);intro a hs)|(refine eL hs (h0:=hk2) (h1:=hk3) (c:=?_);intro a hs)|(refine lM hs (h0:=hj0) (h1:=hj1) (c:=?_);intro a hs)|(refine gC hs (hw:=hw) (hi:=In.hd) (hv:=hl1) (k:=?_);intro a hs)|(refine gC hs (hw:=hw) (hi:=In.hd) (hv:=hl2) (k:=?_);intro a hs)|(refine d7 hs (hw:=hw) (hl:=hl3) (k:=?_);intro W hs hw)|(refine d7 hs (hw:=hw) (hl:=hl4) (k:=?_);intro W hs hw))
  exact k _ _ hs hw):A:=h k
theorem drq {A:Prop} (h:A:=by
  intro LD D a W hcl hi hp hs hw
  repeat (first|(refine sxv hs hw ?_;intro a hs)|refine sxc hs ?_|(refine sxs hs hw ?_;intro W hs hw)|(refine kS hs hw ?_;intro a W hs hw)|((with_reducible first|refine gD hs (k:=?_)|refine gE hs (k:=?_)|refine jL hs (k:=?_)|refine jM hs (k:=?_));intro a hs)|(refine kT hs ?_;intro a hs)|(refine kU hs ?_;intro a hs)|(refine eL hs (h0:=hk0) (h1:=hk1) (c:=?_);intro a hs)|(refine eL hs (h0:=hk2) (h1:=hk3) (c:=?_);intro a hs)|(refine lM hs (h0:=hj0) (h1:=hj1) (c:=?_);intro a hs)|(refine gC hs (hw:=hw) (hi:=In.hd) (hv:=hl1) (k:=?_);intro a hs)|(refine gC hs (hw:=hw) (hi:=In.hd) (hv:=hl2) (k:=?_);intro a hs)|(refine d7 hs (hw:=hw) (hl:=hl3) (k:=?_);intro W hs hw)|(refine d7 hs (hw:=hw) (hl:=hl4) (k:=?_);intro W hs hw))
  (try rw [he] at hs)
  (try rw [he2] at hs)
  exact ⟨hs,hw⟩):A:=h
theorem rgq {P:Program} {Q:Exit→Act→World→Prop} {a:Act} {n:Nat} {L0:List (Nat×Value)} {w W:World} {l:List Oper} {id:Nat} {R:List Res} (V:List Value) (hs:Slots a n L0) (hw:Has 0 w W R) (k:∀a W,Slots a n (fJ l V ++ L0)→Has 0 w W R→Q .normal a W) (ho:oZ P l V L0 n 0 w (fun _=>R) 0 l:=by repeat (first|exact trivial|refine ⟨drq,?_⟩)) (hm:P.follows .mixedOrders=true:=by kernel_rfl) (hf:hJ l=true:=by kernel_rfl) (hV:V.length=l.length:=by rfl) (hn:l.all (fun o=>match o.dst with|some d=>Nat.blt d n|none=>true)=true:=by kernel_rfl):(Code.region id l.toArray true).wp P Q a W:=
 gS V (fun _=>R) hs hw hm hf hV hn ho k
end Go.Sx
