import Derived.Lib.ValidLaws
import Derived.Lib.MapLaws
import Derived.Lib.TrimUEq
import Derived.Lib.RuneBytes
import Derived.WalkKit
import Derived.WalkLawsBesides
import Derived.Laws.IdiomStrings
import Derived.Lib.UnsafeStr
import Derived.Deep.AppendLies
import Derived.Deep.Draws
set_option maxHeartbeats 16000000
namespace Ph
open Go Go.Lib
def rsN:Nat→List UInt8→List (Nat×Nat)
 |0,_=>[]
 |n+1,l=>if l= [] then [] else decodeL l::rsN n (l.drop (decodeL l).2)
def rs (l:List UInt8):List (Nat×Nat):=rsN l.length l
theorem yG (n:Nat):rsN n []= []:=by cases n <;> simp [rsN]
theorem yH:∀(n m:Nat) (l:List UInt8),l.length≤n→l.length≤m→rsN n l=rsN m l
 |0,m,l,h,_=>by
  have:l= []:=List.length_eq_zero_iff.1 (by omega);subst this;simp [yG]
 |n+1,0,l,_,h=>by
  have:l= []:=List.length_eq_zero_iff.1 (by omega);subst this;simp [yG]
 |n+1,m+1,l,h,h'=>by
  simp only [rsN]
  by_cases he:l= []
  ·simp [he]
  ·have hw:=decodeL_width l;rw [if_neg he,if_neg he,yH n m _ (by simp;omega) (by simp;omega)]
theorem aCy:rs []= []:=rfl
theorem yI (l:List UInt8) (h:l≠[]):rs l=decodeL l::rs (l.drop (decodeL l).2):=by
 have hp:0<l.length:=List.length_pos_iff.2 h;have hw:=decodeL_width l;unfold rs;obtain ⟨n,hn⟩:∃n,l.length=n+1:=⟨l.length - 1,by omega⟩
 rw [hn];simp only [rsN];rw [if_neg h];congr 1;exact yH _ _ _ (by simp;omega) (Nat.le_refl _)
theorem aCz {motive:List UInt8→Prop} (h0:motive []) (h1:∀l,l≠[]→motive (l.drop (decodeL l).2)→motive l):∀l,motive l:=by
 intro l;generalize hn:l.length=n
 induction n using Nat.strongRecOn generalizing l with
 |_ n ih=>
  by_cases he:l= []
  ·subst he;exact h0
  ·have hw:=decodeL_width l;have hp:0<l.length:=List.length_pos_iff.2 he;exact h1 l he (ih _ (by simp;omega) _ rfl)
theorem aDA:∀l:List UInt8,(rs l).length≤l.length:=
 aCz (Nat.le_refl _) (fun l he ih=>by
  rw [yI l he];have:=decodeL_le l he;have:=decodeL_width l
  simp at ih⊢;omega)
def count (l:List UInt8):Nat:=(rs l).length
def uL (r:Int):Int:=
 if (65≤r∧r≤90)∨(192≤r∧r≤222∧r≠215)∨(913≤r∧r≤937∧r≠930)∨(1040≤r∧r≤1071) then r+32 else r
def plainB (p:List (Nat×Nat)):Bool:=p.all fun q=>!(decide (q.1<32) || q.1 == 127)
def keyB (l:List UInt8):Bool:=plainB (rs l) && decide (1≤count l) && decide (count l≤40) && validD l
def yJ:List Nat→List Nat→Option Bool
 | [],[]=>none
 | [],_::_=>some true
 |_::_,[]=>some false
 |x::xs,y::ys=>if x=y then yJ xs ys else some (decide (x<y))
def bytesLess:List UInt8→List UInt8→Bool
 | [],[]=>false
 | [],_::_=>true
 |_::_,[]=>false
 |x::xs,y::ys=>if x=y then bytesLess xs ys else decide (x<y)
end Ph
set_option linter.all false
namespace Go.Proofs.YtgpbngfehfbndaaGreatDoor
open Go.RowKit
section
variable {P:Program} {w w':World} {base e:Nat} {v:Value} {l:List UInt8}
theorem aEm (a b:List UInt8):Lib.byteCells (a ++ b)=Lib.byteCells a ++ Lib.byteCells b:=by simp [Lib.byteCells]
theorem own_slice {size n:Nat} {xs:List Value} (h:w.ownsRow base e size v n xs):∃A c,v= .slice A n c∧n≤c∧c≤maxLen∧(0<n→∃g,A=some ⟨g,0,none⟩∧∀j,j<n*size→w.cell? ⟨g,j,none⟩=xs[j]?):=by
 rcases h.2 with ⟨rfl,rfl⟩|⟨g,cap,cur,rfl,hg,hh,hnc,hm,hsz,hx⟩
 ·exact ⟨none,0,rfl,by omega,by omega,fun h=>by omega⟩
 ·exact ⟨_,cap,rfl,hnc,hm,fun _=>⟨g,rfl,fun j hj=>h.cellAt j hj⟩⟩
theorem rX {z:Int} {c:UInt8} (h:w.ownsRow base e 1 v (l.length+1) (Lib.byteCells l ++ [.int .u8 z])) (hz:z=(c.toNat:Int)):w.ownsRow base e 1 v (l ++ [c]).length (Lib.byteCells (l ++ [c])):=by
 subst hz;rw [aEm,List.length_append];exact h
end
end Go.Proofs.YtgpbngfehfbndaaGreatDoor
