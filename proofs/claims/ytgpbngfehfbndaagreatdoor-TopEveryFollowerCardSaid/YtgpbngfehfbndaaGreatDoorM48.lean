/-
  Texts of the proof, one behind the other (part 48).
-/
import Derived.Test.YtgpbngfehfbndaaGreatDoorM47
import Derived.Test.YtgpbngfehfbndaaGreatDoorChecked
import Derived.Test.YtgpbngfehfbndaaGreatDoorProg
set_option maxHeartbeats 16000000
set_option linter.unusedVariables false
set_option maxRecDepth 10000
namespace Go.Proofs.YtgpbngfehfbndaaGreatDoor.Sw
open Go.RowKit Go.Sx
section
variable {w0 W:World} {R L:List Res} {H H':Fh} {p q:Nat} {k:WPt} {w w':bC} {t t':TD} {n m c id err:Int} {s:cN} {d d':bF}
theorem ch {P:Program} {ops:Array Oper} {aE:List Oper} {Q:Exit→Act→World→Prop} {a:Act} {n d:Nat} {L:List (Nat×Value)} {T:TypeId} {p:String} {e:Array Edge} {f:FuncId} {xs:List Operand} {ts:Array TypeId} {vs:List Value} {v:Value} {R':Fh→List Res} (hs:Slots a n L) (hH:(fr w0).le H) (hc:Calls P f ⟨vs⟩ W fun e' W'=>∃H':Fh,e'= .returned v∧H.le H'∧Has 0 w0 W' (R' H')) (k:∀H' a' W',H.le H'→(fr w0).le H'→Slots a' n ((d,v)::L)→Has 0 w0 W' (R' H')→wpList P ops Q aE a' W') (hx:evs L xs=some vs:=by with_unfolding_all exact rfl) (hf:callee P f=true:=by kernel_rfl) (hd:Nat.blt d n=true:=by with_unfolding_all exact rfl):
  wpList P ops Q (⟨some d,.call {callee:= .value (.func f),args:=⟨xs⟩,argTypes:=ts},T,p,e,none⟩::aE) a W:=
 aG hs hx hf hd hc fun e' W' ⟨H',h1,h2,h3⟩=>⟨v,h1,fun a' ha=>k H' a' W' h2 (hH.trans h2) ha h3⟩
end
end Go.Proofs.YtgpbngfehfbndaaGreatDoor.Sw
