
/- plain geometry of segments. -/
import Derived.Test.YtobojnodohjiaaaGreatDoorOf3P
set_option linter.unusedVariables false
set_option linter.unusedSimpArgs false
namespace Go.Proofs.YtobojnodohjiaaaGreatDoor
open Go.RowKit
attribute [local go_sem ↓] Go.wp_at_zero Go.wp_at_succ
def ple (a b : Rat × Rat) : Prop := plt b.1 b.2 a.1 a.2 = false
theorem ple_iff (a b : Rat × Rat) : ple a b ↔ a.1 < b.1 ∨ (a.1 = b.1 ∧ a.2 ≤ b.2) := by
  unfold ple plt
  by_cases h : b.1 = a.1
  · rw [if_pos h]
    constructor
    · intro e
      have := of_decide_eq_false e
      exact .inr ⟨h.symm, by grind⟩
    · rintro (e | e)
      · grind
      · exact decide_eq_false (by grind)
  · rw [if_neg h]
    constructor
    · intro e
      have := of_decide_eq_false e
      exact .inl (by grind)
    · rintro (e | e)
      · exact decide_eq_false (by grind)
      · exact absurd e.1.symm h
theorem ple_refl (a : Rat × Rat) : ple a a := (ple_iff _ _).2 (.inr ⟨rfl, Rat.le_refl⟩)
theorem ple_trans {a b c : Rat × Rat} (h1 : ple a b) (h2 : ple b c) : ple a c := by
  rw [ple_iff] at *
  grind
theorem ple_total (a b : Rat × Rat) : ple a b ∨ ple b a := by
  rw [ple_iff, ple_iff]
  grind
theorem ple_antisymm {a b : Rat × Rat} (h1 : ple a b) (h2 : ple b a) : a = b := by
  rw [ple_iff] at h1 h2
  exact Prod.ext (by grind) (by grind)
theorem mm {a b : Rat × Rat} (h : ple a b) : pmn a b = a ∧ pmx a b = b := by
  have h' : plt b.1 b.2 a.1 a.2 = false := h
  unfold pmn pmx
  rw [h']
  refine ⟨rfl, ?_⟩
  cases e : plt a.1 a.2 b.1 b.2
  · have h2 : ple b a := e
    exact ple_antisymm h h2
  · rfl
theorem mm' {a b : Rat × Rat} (h : ple b a) : pmn a b = b ∧ pmx a b = a := by
  have h' : plt a.1 a.2 b.1 b.2 = false := h
  unfold pmn pmx
  rw [h']
  refine ⟨?_, rfl⟩
  cases e : plt b.1 b.2 a.1 a.2
  · have h2 : ple a b := e
    exact ple_antisymm h2 h
  · rfl
theorem pmn_comm (a b : Rat × Rat) : pmn a b = pmn b a := by
  rcases ple_total a b with h | h
  · rw [(mm h).1, (mm' h).1]
  · rw [(mm' h).1, (mm h).1]
theorem pmx_comm (a b : Rat × Rat) : pmx a b = pmx b a := by
  rcases ple_total a b with h | h
  · rw [(mm h).2, (mm' h).2]
  · rw [(mm' h).2, (mm h).2]
theorem pmn_l (a b : Rat × Rat) : ple (pmn a b) a := by
  rcases ple_total a b with h | h
  · rw [(mm h).1]; exact ple_refl a
  · rw [(mm' h).1]; exact h
theorem pmn_r (a b : Rat × Rat) : ple (pmn a b) b := by rw [pmn_comm]; exact pmn_l b a
theorem pmx_l (a b : Rat × Rat) : ple a (pmx a b) := by
  rcases ple_total a b with h | h
  · rw [(mm h).2]; exact h
  · rw [(mm' h).2]; exact ple_refl a
theorem pmx_r (a b : Rat × Rat) : ple b (pmx a b) := by rw [pmx_comm]; exact pmx_l b a
theorem le_pmn {x a b : Rat × Rat} (h1 : ple x a) (h2 : ple x b) : ple x (pmn a b) := by unfold pmn; split <;> assumption
theorem pmx_le {x a b : Rat × Rat} (h1 : ple a x) (h2 : ple b x) : ple (pmx a b) x := by unfold pmx; split <;> assumption
theorem on_iff (a b p : Rat × Rat) : onB a.1 a.2 b.1 b.2 p.1 p.2 = true ↔ tn a b p = 0 ∧ ple (pmn a b) p ∧ ple p (pmx a b) := by
  have e : onB a.1 a.2 b.1 b.2 p.1 p.2 = ((tn a b p == 0) && (!plt p.1 p.2 (pmn a b).1 (pmn a b).2 && !plt (pmx a b).1 (pmx a b).2 p.1 p.2)) := by
    unfold onB pmn pmx tn
    cases plt b.1 b.2 a.1 a.2 <;> cases plt a.1 a.2 b.1 b.2 <;> rfl
  rw [e]
  simp [ple]
theorem tn_swap (a b c : Rat × Rat) : tn b a c = -tn a b c := turn_swap a.1 a.2 b.1 b.2 c.1 c.2
theorem tn_aba (a b : Rat × Rat) : tn a b a = 0 := by
  unfold tn turn
  rw [show (b.1 - a.1) * (a.2 - a.2) - (b.2 - a.2) * (a.1 - a.1) = 0 by grind]
  rfl
theorem tn_abb (a b : Rat × Rat) : tn a b b = 0 := by
  unfold tn turn
  rw [show (b.1 - a.1) * (b.2 - a.2) - (b.2 - a.2) * (b.1 - a.1) = 0 by grind]
  rfl
theorem seg_le (a b p : Rat × Rat) (t : Rat) (h0 : 0 ≤ t) (h1 : t ≤ 1) (e1 : p.1 = a.1 + (b.1 - a.1) * t) (e2 : p.2 = a.2 + (b.2 - a.2) * t) (h : ple a b) : ple a p ∧ ple p b := by
  by_cases z : t = 0
  · have : p = a := by subst z; exact Prod.ext (by grind) (by grind)
    rw [this]
    exact ⟨ple_refl a, h⟩
  by_cases o : t = 1
  · have : p = b := by subst o; exact Prod.ext (by grind) (by grind)
    rw [this]
    exact ⟨h, ple_refl b⟩
  rw [ple_iff] at *
  rw [ple_iff]
  rcases h with h | ⟨h, h'⟩
  · have n1 : 0 < (b.1 - a.1) * t := Rat.mul_pos (by grind) (by grind)
    have n2 : 0 < (b.1 - a.1) * (1 - t) := Rat.mul_pos (by grind) (by grind)
    exact ⟨.inl (by grind), .inl (by grind)⟩
  · have hp : p.1 = a.1 := by rw [e1, h]; grind
    have n1 : 0 ≤ (b.2 - a.2) * t := Rat.mul_nonneg (by grind) h0
    have n2 : 0 ≤ (b.2 - a.2) * (1 - t) := Rat.mul_nonneg (by grind) (by grind)
    exact ⟨.inr ⟨hp.symm, by grind⟩, .inr ⟨by grind, by grind⟩⟩
theorem on_seg (a b p : Rat × Rat) (t : Rat) (h0 : 0 ≤ t) (h1 : t ≤ 1) (e1 : p.1 = a.1 + (b.1 - a.1) * t) (e2 : p.2 = a.2 + (b.2 - a.2) * t) : onB a.1 a.2 b.1 b.2 p.1 p.2 = true := by
  rw [on_iff]
  refine ⟨?_, ?_⟩
  · unfold tn turn
    rw [e1, e2, show (b.1 - a.1) * (a.2 + (b.2 - a.2) * t - a.2) - (b.2 - a.2) * (a.1 + (b.1 - a.1) * t - a.1) = 0 by grind]
    rfl
  · rcases ple_total a b with h | h
    · rw [(mm h).1, (mm h).2]
      exact seg_le a b p t h0 h1 e1 e2 h
    · rw [(mm' h).1, (mm' h).2]
      exact seg_le b a p (1 - t) (by grind) (by grind) (by grind) (by grind) h
theorem on_a (a b : Rat × Rat) : onB a.1 a.2 b.1 b.2 a.1 a.2 = true := on_seg a b a 0 Rat.le_refl (by decide) (by grind) (by grind)
theorem on_comm (a b p : Rat × Rat) (h : onB a.1 a.2 b.1 b.2 p.1 p.2 = true) : onB b.1 b.2 a.1 a.2 p.1 p.2 = true := by
  rw [on_iff] at *
  rw [tn_swap a b, pmn_comm b a, pmx_comm b a]
  exact ⟨by omega, h.2⟩
theorem crs_sym (a b c d : Rat × Rat) : crs d c b a = -crs a b c d := by unfold crs; grind
theorem cutP_sym (a b c d : Rat × Rat) (hk : crs a b c d ≠ 0) : cutP d c b a = cutP a b c d := by
  unfold cutP
  rw [crs_sym]
  have e : (b.1 - a.1) * (d.2 - c.2) - (b.2 - a.2) * (d.1 - c.1) = crs a b c d := rfl
  generalize crs a b c d = k at *
  exact Prod.ext (by grind) (by grind)
theorem nonneg_part {t k : Rat} (hk : 0 < k) (h : 0 ≤ t * k) : 0 ≤ t := by
  rcases Rat.le_total (a := 0) (b := t) with h1 | h1
  · exact h1
  · by_cases z : t = 0
    · rw [z]; exact Rat.le_refl
    · have := Rat.mul_pos (show 0 < -t by grind) hk
      grind
theorem cutP_on {a b c d : Rat × Rat} (hk : crs a b c d ≠ 0) (h1 : ¬ 0 < tn c d a * tn c d b) : onB a.1 a.2 b.1 b.2 (cutP a b c d).1 (cutP a b c d).2 = true := by
  obtain ⟨A, hA⟩ : ∃ A, A = (d.1 - c.1) * (a.2 - c.2) - (d.2 - c.2) * (a.1 - c.1) := ⟨_, rfl⟩
  obtain ⟨B, hB⟩ : ∃ B, B = (d.1 - c.1) * (b.2 - c.2) - (d.2 - c.2) * (b.1 - c.1) := ⟨_, rfl⟩
  have sA : tn c d a = sgQ A := by rw [hA]; rfl
  have sB : tn c d b = sgQ B := by rw [hB]; rfl
  have n1 : ¬ (0 < A ∧ 0 < B) := fun e => h1 (by rw [sA, sB, sgQ_pos e.1, sgQ_pos e.2]; decide)
  have n2 : ¬ (A < 0 ∧ B < 0) := fun e => h1 (by rw [sA, sB, sgQ_neg e.1, sgQ_neg e.2]; decide)
  have ek : crs a b c d = A - B := by rw [hA, hB]; unfold crs; grind
  have eX : (c.1 - a.1) * (d.2 - c.2) - (c.2 - a.2) * (d.1 - c.1) = A := by rw [hA]; grind
  have ht : (A / (A - B)) * (A - B) = A := Rat.div_mul_cancel (by rw [← ek]; exact hk)
  rw [ek] at hk
  refine on_seg a b _ (A / (A - B)) ?_ ?_ (by unfold cutP; rw [eX, ek]) (by unfold cutP; rw [eX, ek])
  · generalize A / (A - B) = t at *
    by_cases g : 0 < A - B
    · exact nonneg_part g (by grind)
    · exact nonneg_part (k := -(A - B)) (by grind) (by grind)
  · generalize A / (A - B) = t at *
    by_cases g : 0 < A - B
    · have := nonneg_part (t := 1 - t) g (by grind)
      grind
    · have := nonneg_part (t := 1 - t) (k := -(A - B)) (by grind) (by grind)
      grind
theorem pmn_or (a b : Rat × Rat) : pmn a b = a ∨ pmn a b = b := by unfold pmn; split <;> simp
theorem pmx_or (a b : Rat × Rat) : pmx a b = a ∨ pmx a b = b := by unfold pmx; split <;> simp
theorem piece_on {a b c d p : Rat × Rat} {n : Int} (z1 : tn a b c = 0) (z2 : tn a b d = 0) (z3 : tn c d a = 0) (z4 : tn c d b = 0) (h : pieceV a b c d = (n, p)) (hn : n ≠ 0) : onB a.1 a.2 b.1 b.2 p.1 p.2 = true ∧ onB c.1 c.2 d.1 d.2 p.1 p.2 = true := by
  unfold pieceV at h
  cases hl : plt (pmn (pmx a b) (pmx c d)).1 (pmn (pmx a b) (pmx c d)).2 (pmx (pmn a b) (pmn c d)).1 (pmx (pmn a b) (pmn c d)).2
  · have hle : ple (pmx (pmn a b) (pmn c d)) (pmn (pmx a b) (pmx c d)) := hl
    rw [hl, if_neg (by decide)] at h
    have hp : pmx (pmn a b) (pmn c d) = p := by
      split at h <;> exact (Prod.mk.inj h).2
    have hor : p = a ∨ p = b ∨ p = c ∨ p = d := by
      rw [← hp]
      rcases pmx_or (pmn a b) (pmn c d) with e | e <;> rw [e]
      · rcases pmn_or a b with e | e <;> rw [e] <;> simp
      · rcases pmn_or c d with e | e <;> rw [e] <;> simp
    have t1 : tn a b p = 0 := by
      rcases hor with e | e | e | e <;> rw [e]
      · exact tn_aba a b
      · exact tn_abb a b
      · exact z1
      · exact z2
    have t2 : tn c d p = 0 := by
      rcases hor with e | e | e | e <;> rw [e]
      · exact z3
      · exact z4
      · exact tn_aba c d
      · exact tn_abb c d
    rw [hp] at hle
    rw [on_iff, on_iff]
    exact ⟨⟨t1, by rw [← hp]; exact pmx_l _ _, ple_trans hle (pmn_l _ _)⟩, ⟨t2, by rw [← hp]; exact pmx_r _ _, ple_trans hle (pmn_r _ _)⟩⟩
  · rw [hl, if_pos rfl] at h
    exact absurd (Prod.mk.inj h).1.symm hn
theorem cut_on {a b c d p : Rat × Rat} {n : Int} (h : cutV a b c d = (n, p)) (hn : n ≠ 0) : onB a.1 a.2 b.1 b.2 p.1 p.2 = true ∧ onB c.1 c.2 d.1 d.2 p.1 p.2 = true := by
  have h' := h
  unfold cutV at h
  by_cases h0 : tn a b c = 0 ∧ tn a b d = 0 ∧ tn c d a = 0 ∧ tn c d b = 0
  · rw [if_pos h0] at h
    exact piece_on h0.1 h0.2.1 h0.2.2.1 h0.2.2.2 h hn
  rw [if_neg h0] at h
  by_cases h1 : 0 < tn a b c * tn a b d ∨ 0 < tn c d a * tn c d b
  · rw [if_pos h1] at h
    exact absurd (Prod.mk.inj h).1.symm hn
  rw [if_neg h1] at h
  have hk := crs_ne h0 h1
  have hp := (Prod.mk.inj h).2
  refine ⟨by rw [← hp]; exact cutP_on hk (fun e => h1 (.inr e)), ?_⟩
  rw [← hp, ← cutP_sym a b c d hk]
  refine on_comm d c _ (cutP_on (by rw [crs_sym]; grind) (fun e => h1 (.inl ?_)))
  rw [tn_swap a b d, tn_swap a b c, Int.neg_mul_neg, Int.mul_comm] at e
  exact e
def mid (a b : Rat × Rat) : Rat × Rat := ((a.1 + b.1) * half, (a.2 + b.2) * half)
theorem szp_cut {a b c d : Rat × Rat} (ha : szp 40 a) (hb : szp 40 b) (hc : szp 40 c) (hd : szp 40 d) : szp 1000 (cutV a b c d).2 := by
  have w40 : ∀ {x : Rat × Rat}, szp 40 x → szp 1000 x := fun h => ⟨Nat.le_trans h.1 (by decide), Nat.le_trans h.2 (by decide)⟩
  have s0 : szp 1000 ((0 : Rat), (0 : Rat)) := ⟨Nat.le_trans (sz_of (q := (0 : Rat)) (k := 1) (wl_small (by decide)) (wl_small (by decide))) (by decide), Nat.le_trans (sz_of (q := (0 : Rat)) (k := 1) (wl_small (by decide)) (wl_small (by decide))) (by decide)⟩
  unfold cutV
  split
  · unfold pieceV
    split
    · exact s0
    · split <;> exact szp_pmx (szp_pmn (w40 ha) (w40 hb)) (szp_pmn (w40 hc) (w40 hd))
  · split
    · exact s0
    · obtain ⟨a1, a2⟩ := ha
      obtain ⟨b1, b2⟩ := hb
      obtain ⟨c1, c2⟩ := hc
      obtain ⟨d1, d2⟩ := hd
      have k1 := sz_cross (b.1 - a.1) (b.2 - a.2) (d.1 - c.1) (d.2 - c.2)
      have k2 := sz_cross (c.1 - a.1) (c.2 - a.2) (d.1 - c.1) (d.2 - c.2)
      have h2 := sz_sub b.1 a.1
      have h3 := sz_sub b.2 a.2
      have h4 := sz_sub d.1 c.1
      have h5 := sz_sub d.2 c.2
      have h6 := sz_sub c.1 a.1
      have h7 := sz_sub c.2 a.2
      have q := sz_div ((c.1 - a.1) * (d.2 - c.2) - (c.2 - a.2) * (d.1 - c.1)) (crs a b c d)
      have k3 : sz (crs a b c d) ≤ sz (b.1 - a.1) + sz (b.2 - a.2) + sz (d.1 - c.1) + sz (d.2 - c.2) + 1 := k1
      have m1 := sz_mul (b.1 - a.1) (((c.1 - a.1) * (d.2 - c.2) - (c.2 - a.2) * (d.1 - c.1)) / crs a b c d)
      have m2 := sz_mul (b.2 - a.2) (((c.1 - a.1) * (d.2 - c.2) - (c.2 - a.2) * (d.1 - c.1)) / crs a b c d)
      have n1 := sz_add a.1 ((b.1 - a.1) * (((c.1 - a.1) * (d.2 - c.2) - (c.2 - a.2) * (d.1 - c.1)) / crs a b c d))
      have n2 := sz_add a.2 ((b.2 - a.2) * (((c.1 - a.1) * (d.2 - c.2) - (c.2 - a.2) * (d.1 - c.1)) / crs a b c d))
      refine ⟨?_, ?_⟩
      · unfold cutP
        show sz (a.1 + _) ≤ 1000
        omega
      · unfold cutP
        show sz (a.2 + _) ≤ 1000
        omega
end Go.Proofs.YtobojnodohjiaaaGreatDoor
