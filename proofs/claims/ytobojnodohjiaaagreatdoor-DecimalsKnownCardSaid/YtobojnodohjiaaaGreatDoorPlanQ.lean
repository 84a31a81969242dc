
/- A plan's check that goes through the operations once, in their order: for regions of many operations (the kernel walks it in little memory). Condition: the Bool 'regionQ' of the region's own edges. -/
import Derived.Test.YtobojnodohjiaaaGreatDoorPC
set_option linter.unusedVariables false
set_option linter.unusedSimpArgs false
namespace Go.Proofs.YtobojnodohjiaaaGreatDoor
open Go.RowKit
section
variable {P:Program} {ops:Array Oper} {md:Region.Mode}
def qn_ (is:List Nat) (i j:Nat):Bool:=decide (j<i) || is.contains j
def UpTo (is:List Nat) (size i:Nat) (listed:Array Bool):Prop:=listed.size=size∧∀ j,j<size→listed.getD j true=qn_ is i j
theorem xl3 {a:Array Bool} {j:Nat} (h:j<a.size) (d e:Bool):a.getD j d=a.getD j e:=by
 simp [Array.getD,h]
theorem UpTo.off {is:List Nat} {size i:Nat} {listed:Array Bool} (h:UpTo is size i listed) (his:∀ j ∈ is,j<size) (hi:i≤size) (j:Nat) (hj:qn_ is i j=true):listed.getD j false=true:=by
 have hlt:j<size:=by
  simp only [qn_,Bool.or_eq_true,decide_eq_true_eq,List.contains_eq_mem] at hj
  rcases hj with hj|hj
  ·omega
  exact his j hj
 rw [xl3 (by rw [h.1];exact hlt) false true,h.2 j hlt,hj]
theorem UpTo.skip {is:List Nat} {size i:Nat} {listed:Array Bool} (h:UpTo is size i listed) (hi:is.contains i=true):UpTo is size (i+1) listed:=by
 refine ⟨h.1,fun j hj=>?_⟩
 rw [h.2 j hj]
 unfold qn_
 by_cases e:j=i
 ·subst e;rw [hi];simp
 rw [show decide (j<i+1)=decide (j<i) from decide_eq_decide.2 (by omega)]
theorem UpTo.set {is:List Nat} {size i:Nat} {listed:Array Bool} (h:UpTo is size i listed):UpTo is size (i+1) (listed.setIfInBounds i true):=by
 refine ⟨by simp [h.1],fun j hj=>?_⟩
 have hs:j<listed.size:=by rw [h.1];exact hj
 by_cases e:j=i
 ·subst e
  rw [Array.getD_eq_getD_getElem?,Array.getElem?_setIfInBounds_self_of_lt hs]
  simp [qn_]
 rw [Array.getD_eq_getD_getElem?,Array.getElem?_setIfInBounds_ne (Ne.symm e),← Array.getD_eq_getD_getElem?,h.2 j hj]
 unfold qn_
 rw [show decide (j<i+1)=decide (j<i) from decide_eq_decide.2 (by omega)]
theorem UpTo.canon {is:List Nat} {size n:Nat} {listed:Array Bool} (h:UpTo is size n listed) (his:∀ j ∈ is,j<n):listed=canon n size:=by
 apply Array.ext
 ·rw [h.1];simp [Go.Proofs.YtobojnodohjiaaaGreatDoor.canon]
 intro j h1 h2
 have hj:j<size:=by rw [← h.1];exact h1
 have:=h.2 j hj
 rw [Array.getD_eq_getD_getElem?,Array.getElem?_eq_getElem h1,Option.getD_some] at this
 rw [this]
 simp only [Go.Proofs.YtobojnodohjiaaaGreatDoor.canon,Array.getElem_ofFn,qn_]
 by_cases e:j<n
 ·simp [e]
 have:¬ j ∈ is:=fun hm=>e (his j hm)
 simp [e,this]
end
end Go.Proofs.YtobojnodohjiaaaGreatDoor
