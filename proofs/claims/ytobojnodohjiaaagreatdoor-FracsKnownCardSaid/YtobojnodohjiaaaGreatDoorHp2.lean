
/- A slice that a walk makes and keeps. No condition but those stated. -/
import Derived.Test.YtobojnodohjiaaaGreatDoorPC
import Derived.Test.YtobojnodohjiaaaGreatDoorHp
set_option linter.unusedVariables false
set_option linter.unusedSimpArgs false
namespace Go.Proofs.YtobojnodohjiaaaGreatDoor
open Go.RowKit
section
variable {P:Program} {ops:Array Oper} {md:Region.Mode}
def ql5 (is:List Nat) (i j:Nat):Bool:=decide (j<i) || is.contains j
def UpTo (is:List Nat) (size i:Nat) (listed:Array Bool):Prop:=listed.size=size∧∀ j,j<size→listed.getD j true=ql5 is i j
theorem xd_ {a:Array Bool} {j:Nat} (h:j<a.size) (d e:Bool):a.getD j d=a.getD j e:=by
 simp [Array.getD,h]
theorem UpTo.off {is:List Nat} {size i:Nat} {listed:Array Bool} (h:UpTo is size i listed) (his:∀ j ∈ is,j<size) (hi:i≤size) (j:Nat) (hj:ql5 is i j=true):listed.getD j false=true:=by
 have hlt:j<size:=by
  simp only [ql5,Bool.or_eq_true,decide_eq_true_eq,List.contains_eq_mem] at hj
  rcases hj with hj|hj
  ·omega
  exact his j hj
 rw [xd_ (by rw [h.1];exact hlt) false true,h.2 j hlt,hj]
theorem UpTo.skip {is:List Nat} {size i:Nat} {listed:Array Bool} (h:UpTo is size i listed) (hi:is.contains i=true):UpTo is size (i+1) listed:=by
 refine ⟨h.1,fun j hj=>?_⟩
 rw [h.2 j hj]
 unfold ql5
 by_cases e:j=i
 ·subst e;rw [hi];simp
 rw [show decide (j<i+1)=decide (j<i) from decide_eq_decide.2 (by omega)]
theorem UpTo.set {is:List Nat} {size i:Nat} {listed:Array Bool} (h:UpTo is size i listed):UpTo is size (i+1) (listed.setIfInBounds i true):=by
 refine ⟨by simp [h.1],fun j hj=>?_⟩
 have hs:j<listed.size:=by rw [h.1];exact hj
 by_cases e:j=i
 ·subst e
  rw [Array.getD_eq_getD_getElem?,Array.getElem?_setIfInBounds_self_of_lt hs]
  simp [ql5]
 rw [Array.getD_eq_getD_getElem?,Array.getElem?_setIfInBounds_ne (Ne.symm e),← Array.getD_eq_getD_getElem?,h.2 j hj]
 unfold ql5
 rw [show decide (j<i+1)=decide (j<i) from decide_eq_decide.2 (by omega)]
theorem UpTo.canon {is:List Nat} {size n:Nat} {listed:Array Bool} (h:UpTo is size n listed) (his:∀ j ∈ is,j<n):listed=canon n size:=by
 apply Array.ext
 ·rw [h.1];simp [Go.Proofs.YtobojnodohjiaaaGreatDoor.canon]
 intro j h1 h2
 have hj:j<size:=by rw [← h.1];exact h1
 have:=h.2 j hj
 rw [Array.getD_eq_getD_getElem?,Array.getElem?_eq_getElem h1,Option.getD_some] at this
 rw [this]
 simp only [Go.Proofs.YtobojnodohjiaaaGreatDoor.canon,Array.getElem_ofFn,ql5]
 by_cases e:j<n
 ·simp [e]
 have:¬ j ∈ is:=fun hm=>e (his j hm)
 simp [e,this]
end
end Go.Proofs.YtobojnodohjiaaaGreatDoor

namespace Go.Proofs.YtobojnodohjiaaaGreatDoor
open Go.RowKit
theorem HP.grS {w0 W W':World} {L:List Fk} {b T:Nat} {cs:Array Value} (h:HP w0 W L) (g:Gr W W') (hle:W.heap.size≤b) (hb:Bx W' b T cs) (I:T≠3):HP w0 W' (L ++ [Sum.inl (b,T,cs)]) :=
 (h.gr g).add hb I (Nat.le_trans h.1.size hle) (fun i x hx=>by have:=h.lt i x hx;omega)
end Go.Proofs.YtobojnodohjiaaaGreatDoor
