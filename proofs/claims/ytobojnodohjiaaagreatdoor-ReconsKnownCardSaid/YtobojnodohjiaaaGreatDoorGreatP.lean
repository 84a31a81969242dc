
/- plain facts of the laws of gussetlaw03. -/
import Derived.Test.YtobojnodohjiaaaGreatDoorHp2
set_option linter.unusedVariables false
set_option linter.unusedSimpArgs false
namespace Go.Proofs.YtobojnodohjiaaaGreatDoor
open Go.RowKit
attribute [local go_sem ↓] Go.wp_at_zero Go.wp_at_succ
theorem qW7 {a:Rat} {n:Nat} {y:Int} (hn:n≠0) (hg:(egcd ((n:Nat):Int) ((a.den:Nat):Int)).1=1) (hy:(egcd ((n:Nat):Int) ((a.den:Nat):Int)).2.2=y):rfit a (a.num*y) n:=by
 have h1:=crg n a.den
 rw [hg] at h1
 have h2:=(qi9 _ ((n:Nat):Int) ((a.den:Nat):Int) (Nat.le_refl _)).2
 rw [hg,hy] at h2
 refine ⟨hn,by rw [Nat.gcd_comm];omega,Int.emod_eq_zero_of_dvd ⟨a.num*(egcd ((n:Nat):Int) ((a.den:Nat):Int)).2.1,?_⟩⟩
 generalize (egcd ((n:Nat):Int) ((a.den:Nat):Int)).2.1=x at *
 grind
theorem xu3 {a:Int} {m:Nat} {z:Rat} {b:Bool} (h:bk a m z b):bk (a+((m:Nat):Int)) m z b:=by
 have e:∀ g,rfit g (a+((m:Nat):Int)) m ↔ rfit g a m:=fun g=>by
  unfold rfit
  have e1:(g.num - (a+((m:Nat):Int))*((g.den:Nat):Int)) % ((m:Nat):Int)=(g.num - a*((g.den:Nat):Int)) % ((m:Nat):Int):=by
   rw [show g.num - (a+((m:Nat):Int))*((g.den:Nat):Int)=g.num - a*((g.den:Nat):Int)+((m:Nat):Int)*(-((g.den:Nat):Int)) by grind,Int.add_mul_emod_self_left]
  rw [e1]
 rcases h with ⟨hb,h1,h2⟩|⟨hb,h0,h1⟩
 ·exact .inl ⟨hb,h1,(e _).2 h2⟩
 ·exact .inr ⟨hb,h0,fun g c d=>h1 g c ((e g).1 d)⟩
theorem qI2 {g:Rat} {a:Int} {m:Nat} (h:rfit g a m):rfit (-g) (-a) m:=by
 refine ⟨h.1,h.2.1,Int.emod_eq_zero_of_dvd ?_⟩
 obtain ⟨k,hk⟩:=Int.dvd_of_emod_eq_zero h.2.2
 exact ⟨-k,by rw [show (-g).num = -g.num from rfl,show (-g).den=g.den from rfl];grind⟩
theorem qI1 {g:Rat} {m:Nat} (h:rfar g m):rfar (-g) m:=by
 unfold rfar at *
 rw [show (-g).num = -g.num from rfl,show (-g).den=g.den from rfl,Int.natAbs_neg];exact h
theorem xu4 {a:Int} {m:Nat} {z:Rat} {b:Bool} (h:bk a m z b):bk (-a) m (-z) b:=by
 rcases h with ⟨hb,h1,h2⟩|⟨hb,h0,h1⟩
 ·exact .inl ⟨hb,qI1 h1,qI2 h2⟩
 ·refine .inr ⟨hb,by rw [h0];rfl,fun g c d=>h1 (-g) (qI1 c) ?_⟩
  have:=qI2 d
  rwa [Int.neg_neg] at this
end Go.Proofs.YtobojnodohjiaaaGreatDoor

set_option linter.unusedVariables false
set_option linter.unusedSimpArgs false
namespace Go.Proofs.YtobojnodohjiaaaGreatDoor
open Go.RowKit
attribute [local go_sem ↓] Go.wp_at_zero Go.wp_at_succ
theorem qx4 {i:Int} {m k:Nat} (h1:wl i.natAbs≤k) (h2:wl m≤k):sz (mkRat i (m+1))≤k+1:=by
 have h3:=ql1 m 1
 have h4:wl 1≤1:=qa6 (by decide)
 have h5:wl (m+1)≤k+1:=by
  rcases Nat.eq_zero_or_pos m with h|h
  ·subst h;exact Nat.le_trans (qa6 (by decide)) om
  ·have:=qq1 h
   omega
 exact qj1 om h5 om
theorem xJ5 {b:Rat} (h:b≠0):¬ sgQ b=0:=by
 unfold sgQ;rw [if_neg h];split <;> decide
end Go.Proofs.YtobojnodohjiaaaGreatDoor
