
/- plain facts for ReconsThere and ReconsOne. -/
import Derived.Test.YtobojnodohjiaaaGreatDoorHp2
namespace Go.Proofs.YtobojnodohjiaaaGreatDoor
open Go.RowKit
set_option linter.unusedSimpArgs false
set_option linter.unusedVariables false
attribute [local go_sem ↓] Go.wp_at_zero Go.wp_at_succ
theorem there_fit {a : Rat} {n : Nat} {y : Int} (hn : n ≠ 0) (hg : (egcd ((n : Nat) : Int) ((a.den : Nat) : Int)).1 = 1) (hy : (egcd ((n : Nat) : Int) ((a.den : Nat) : Int)).2.2 = y) : rfit a (a.num * y) n := by
  have h1 := crg n a.den
  rw [hg] at h1
  have h2 := (egcd_gcd _ ((n : Nat) : Int) ((a.den : Nat) : Int) (Nat.le_refl _)).2
  rw [hg, hy] at h2
  refine ⟨hn, by rw [Nat.gcd_comm]; omega, Int.emod_eq_zero_of_dvd ⟨a.num * (egcd ((n : Nat) : Int) ((a.den : Nat) : Int)).2.1, ?_⟩⟩
  generalize (egcd ((n : Nat) : Int) ((a.den : Nat) : Int)).2.1 = x at *
  grind
theorem bk_add {a : Int} {m : Nat} {z : Rat} {b : Bool} (h : bk a m z b) : bk (a + ((m : Nat) : Int)) m z b := by
  have e : ∀ g, rfit g (a + ((m : Nat) : Int)) m ↔ rfit g a m := fun g => by
    unfold rfit
    have e1 : (g.num - (a + ((m : Nat) : Int)) * ((g.den : Nat) : Int)) % ((m : Nat) : Int) = (g.num - a * ((g.den : Nat) : Int)) % ((m : Nat) : Int) := by
      rw [show g.num - (a + ((m : Nat) : Int)) * ((g.den : Nat) : Int) = g.num - a * ((g.den : Nat) : Int) + ((m : Nat) : Int) * (-((g.den : Nat) : Int)) by grind, Int.add_mul_emod_self_left]
    rw [e1]
  rcases h with ⟨hb, h1, h2⟩ | ⟨hb, h0, h1⟩
  · exact .inl ⟨hb, h1, (e _).2 h2⟩
  · exact .inr ⟨hb, h0, fun g c d => h1 g c ((e g).1 d)⟩
theorem rfit_neg {g : Rat} {a : Int} {m : Nat} (h : rfit g a m) : rfit (-g) (-a) m := by
  refine ⟨h.1, h.2.1, Int.emod_eq_zero_of_dvd ?_⟩
  obtain ⟨k, hk⟩ := Int.dvd_of_emod_eq_zero h.2.2
  exact ⟨-k, by rw [show (-g).num = -g.num from rfl, show (-g).den = g.den from rfl]; grind⟩
theorem rfar_neg {g : Rat} {m : Nat} (h : rfar g m) : rfar (-g) m := by
  unfold rfar at *
  rw [show (-g).num = -g.num from rfl, show (-g).den = g.den from rfl, Int.natAbs_neg]; exact h
theorem bk_neg {a : Int} {m : Nat} {z : Rat} {b : Bool} (h : bk a m z b) : bk (-a) m (-z) b := by
  rcases h with ⟨hb, h1, h2⟩ | ⟨hb, h0, h1⟩
  · exact .inl ⟨hb, rfar_neg h1, rfit_neg h2⟩
  · refine .inr ⟨hb, by rw [h0]; rfl, fun g c d => h1 (-g) (rfar_neg c) ?_⟩
    have := rfit_neg d
    rwa [Int.neg_neg] at this

end Go.Proofs.YtobojnodohjiaaaGreatDoor
