
/- PointsCut: the reference's answer is the program's. -/
import Derived.Test.YtobojnodohjiaaaGreatDoorRefP
set_option linter.unusedVariables false
set_option linter.unusedSimpArgs false
namespace Go.Proofs.YtobojnodohjiaaaGreatDoor
open Go.RowKit
abbrev Pq := Rat × Rat
def onQ (a b p : Pq) : Bool := onR a.1 a.2 b.1 b.2 p.1 p.2
def ends (a b c d : Pq) : List Pq := (((if onQ c d a then [a] else []) ++ (if onQ c d b then [b] else [])) ++ (if onQ a b c then [c] else [])) ++ (if onQ a b d then [d] else [])
def cutR (a b c d : Pq) : Int × Pq :=
  match ends a b c d with
  | e :: l => (if l.foldl pmn e = l.foldl pmx e then 1 else 2, l.foldl pmn e)
  | [] => if crs a b c d = 0 then (0, (0, 0)) else if onQ a b (cutP a b c d) && onQ c d (cutP a b c d) then (1, cutP a b c d) else (0, (0, 0))
theorem mem_if {r : Bool} {x y : Pq} : x ∈ (if r then [y] else []) ↔ r = true ∧ x = y := by cases r <;> simp
theorem mem_ends {a b c d x : Pq} : x ∈ ends a b c d ↔ (onQ c d a = true ∧ x = a) ∨ (onQ c d b = true ∧ x = b) ∨ (onQ a b c = true ∧ x = c) ∨ (onQ a b d = true ∧ x = d) := by
  unfold ends
  rw [List.mem_append, List.mem_append, List.mem_append, mem_if, mem_if, mem_if, mem_if]
  grind
theorem onQ_eq (a b p : Pq) : onQ a b p = onB a.1 a.2 b.1 b.2 p.1 p.2 := (on_eq a b p).symm
theorem onQ_iff {a b p : Pq} : onQ a b p = true ↔ tn a b p = 0 ∧ ple (pmn a b) p ∧ ple p (pmx a b) := by rw [onQ_eq]; exact on_iff a b p
theorem onQ_a (a b : Pq) : onQ a b a = true := by rw [onQ_eq]; exact on_a a b
theorem onQ_b (a b : Pq) : onQ a b b = true := by rw [onQ_eq]; exact on_comm b a b (on_a b a)
theorem ends_on {a b c d x : Pq} (h : x ∈ ends a b c d) : onQ a b x = true ∧ onQ c d x = true := by
  rcases mem_ends.1 h with ⟨h, rfl⟩ | ⟨h, rfl⟩ | ⟨h, rfl⟩ | ⟨h, rfl⟩
  · exact ⟨onQ_a _ _, h⟩
  · exact ⟨onQ_b _ _, h⟩
  · exact ⟨h, onQ_a _ _⟩
  · exact ⟨h, onQ_b _ _⟩
theorem fold_mn (l : List Pq) : ∀ e : Pq, l.foldl pmn e ∈ e :: l ∧ ∀ x ∈ e :: l, ple (l.foldl pmn e) x := by
  induction l with
  | nil => intro e; exact ⟨by simp, fun x hx => by simp at hx; subst hx; exact ple_refl _⟩
  | cons y l ih =>
    intro e
    obtain ⟨h1, h2⟩ := ih (pmn e y)
    rw [List.foldl_cons]
    refine ⟨?_, fun x hx => ?_⟩
    · rcases List.mem_cons.1 h1 with h | h
      · rcases pmn_or e y with g | g <;> rw [h, g] <;> simp
      · exact List.mem_cons_of_mem _ (List.mem_cons_of_mem _ h)
    · have h3 := h2 _ (List.mem_cons_self ..)
      rcases List.mem_cons.1 hx with h | h
      · exact ple_trans h3 (h ▸ pmn_l e y)
      · rcases List.mem_cons.1 h with h | h
        · exact ple_trans h3 (h ▸ pmn_r e y)
        · exact h2 _ (List.mem_cons_of_mem _ h)
theorem fold_mx (l : List Pq) : ∀ e : Pq, l.foldl pmx e ∈ e :: l ∧ ∀ x ∈ e :: l, ple x (l.foldl pmx e) := by
  induction l with
  | nil => intro e; exact ⟨by simp, fun x hx => by simp at hx; subst hx; exact ple_refl _⟩
  | cons y l ih =>
    intro e
    obtain ⟨h1, h2⟩ := ih (pmx e y)
    rw [List.foldl_cons]
    refine ⟨?_, fun x hx => ?_⟩
    · rcases List.mem_cons.1 h1 with h | h
      · rcases pmx_or e y with g | g <;> rw [h, g] <;> simp
      · exact List.mem_cons_of_mem _ (List.mem_cons_of_mem _ h)
    · have h3 := h2 _ (List.mem_cons_self ..)
      rcases List.mem_cons.1 hx with h | h
      · exact ple_trans (h ▸ pmx_l e y) h3
      · rcases List.mem_cons.1 h with h | h
        · exact ple_trans (h ▸ pmx_r e y) h3
        · exact h2 _ (List.mem_cons_of_mem _ h)
theorem crs_tn {a b c d : Pq} (h1 : tn a b c = 0) (h2 : tn a b d = 0) : crs a b c d = 0 := by
  have z : ∀ q : Rat, sgQ q = 0 → q = 0 := fun q h => by
    unfold sgQ at h
    split at h
    · assumption
    · split at h <;> simp at h
  have e1 := z _ h1
  have e2 := z _ h2
  unfold crs
  grind
theorem tn_z {a b c : Pq} (h : tn a b c = 0) : (b.1 - a.1) * (c.2 - a.2) - (b.2 - a.2) * (c.1 - a.1) = 0 := by
  unfold tn turn sgQ at h
  split at h
  · assumption
  · split at h <;> simp at h
theorem on_off {a b c d p : Pq} (h1 : tn a b p = 0) (h2 : onQ c d p = true) : ¬ 0 < tn a b c * tn a b d := by
  intro h
  have hp := tn_z h1
  unfold onQ onR at h2
  rw [Bool.and_eq_true, beq_iff_eq, decide_eq_true_eq, sgQ_le] at h2
  have hc := tn_z (show tn c d p = 0 from h2.1)
  have hd := h2.2
  have s1 : tn a b c = sgQ ((b.1 - a.1) * (c.2 - p.2) - (b.2 - a.2) * (c.1 - p.1)) := by unfold tn turn; congr 1; grind
  have s2 : tn a b d = sgQ ((b.1 - a.1) * (d.2 - p.2) - (b.2 - a.2) * (d.1 - p.1)) := by unfold tn turn; congr 1; grind
  rw [s1, s2, ← sgQ_mul] at h
  have h3 : 0 < ((b.1 - a.1) * (c.2 - p.2) - (b.2 - a.2) * (c.1 - p.1)) * ((b.1 - a.1) * (d.2 - p.2) - (b.2 - a.2) * (d.1 - p.1)) := by
    rcases Rat.le_total (a := ((b.1 - a.1) * (c.2 - p.2) - (b.2 - a.2) * (c.1 - p.1)) * ((b.1 - a.1) * (d.2 - p.2) - (b.2 - a.2) * (d.1 - p.1))) (b := 0) with g | g
    · have := (sgQ_le _).2 g
      omega
    · by_cases z : ((b.1 - a.1) * (c.2 - p.2) - (b.2 - a.2) * (c.1 - p.1)) * ((b.1 - a.1) * (d.2 - p.2) - (b.2 - a.2) * (d.1 - p.1)) = 0
      · rw [z] at h; exact absurd h (by decide)
      · rcases Rat.le_iff_lt_or_eq.1 g with g | g
        · exact g
        · exact absurd g.symm z
  clear h s1 s2 h1 h2 hp
  obtain ⟨C1, e1⟩ : ∃ x, c.1 - p.1 = x := ⟨_, rfl⟩
  obtain ⟨C2, e2⟩ : ∃ x, c.2 - p.2 = x := ⟨_, rfl⟩
  obtain ⟨D1, e3⟩ : ∃ x, d.1 - p.1 = x := ⟨_, rfl⟩
  obtain ⟨D2, e4⟩ : ∃ x, d.2 - p.2 = x := ⟨_, rfl⟩
  obtain ⟨u1, e5⟩ : ∃ x, b.1 - a.1 = x := ⟨_, rfl⟩
  obtain ⟨u2, e6⟩ : ∃ x, b.2 - a.2 = x := ⟨_, rfl⟩
  have hc' : C1 * D2 - C2 * D1 = 0 := by rw [← e1, ← e2, ← e3, ← e4]; grind
  rw [e1, e2, e3, e4, e5, e6] at h3
  rw [e1, e2, e3, e4] at hd
  clear e1 e2 e3 e4 e5 e6 hc
  have k1 : (u1 * D2 - u2 * D1) * (C1 * C1 + C2 * C2) = (u1 * C2 - u2 * C1) * (C1 * D1 + C2 * D2) + (u1 * C1 + u2 * C2) * (C1 * D2 - C2 * D1) := by grind
  rw [hc', Rat.mul_zero, Rat.add_zero] at k1
  obtain ⟨X, hX⟩ : ∃ x, u1 * C2 - u2 * C1 = x := ⟨_, rfl⟩
  obtain ⟨Y, hY⟩ : ∃ x, u1 * D2 - u2 * D1 = x := ⟨_, rfl⟩
  obtain ⟨S, hS⟩ : ∃ x, C1 * C1 + C2 * C2 = x := ⟨_, rfl⟩
  obtain ⟨T, hT⟩ : ∃ x, C1 * D1 + C2 * D2 = x := ⟨_, rfl⟩
  have S0 : 0 ≤ S := by
    have a1 := sq_nonneg C1
    have a2 := sq_nonneg C2
    grind
  rw [hX, hY] at h3
  rw [hX, hY, hS, hT] at k1
  rw [hT] at hd
  have X0 : ¬ X = 0 := fun e => by rw [e, Rat.zero_mul] at h3; exact absurd h3 (by decide +kernel)
  have XX : 0 < X * X := by
    have := sq_nonneg X
    have : ¬ X * X = 0 := fun e => X0 ((Rat.mul_eq_zero.1 e).elim id id)
    grind
  have Sp : 0 < S := by
    by_cases z : S = 0
    · rw [← hS] at z
      have := sq_zero (x := C1) (y := C2) (by rw [z]; exact Rat.le_refl)
      exact absurd (by rw [← hX, this.1, this.2]; grind) X0
    · grind
  have q1 : 0 < X * Y * S := Rat.mul_pos h3 Sp
  have q2 : X * Y * S = X * X * T := by
    rw [Rat.mul_assoc, k1]; grind
  have q3 := Rat.mul_nonneg (Rat.le_of_lt XX) (show 0 ≤ -T by grind)
  grind
theorem meet_one {a b c d p q : Pq} (hk : crs a b c d ≠ 0) (h1 : tn a b p = 0) (h2 : tn c d p = 0) (h3 : tn a b q = 0) (h4 : tn c d q = 0) : p = q := by
  have e1 := tn_z h1
  have e2 := tn_z h2
  have e3 := tn_z h3
  have e4 := tn_z h4
  unfold crs at hk
  obtain ⟨u1, v1⟩ : ∃ x, b.1 - a.1 = x := ⟨_, rfl⟩
  obtain ⟨u2, v2⟩ : ∃ x, b.2 - a.2 = x := ⟨_, rfl⟩
  obtain ⟨w1, v3⟩ : ∃ x, d.1 - c.1 = x := ⟨_, rfl⟩
  obtain ⟨w2, v4⟩ : ∃ x, d.2 - c.2 = x := ⟨_, rfl⟩
  rw [v1, v2] at e1 e3 hk
  rw [v3, v4] at e2 e4 hk
  have f1 : u1 * (q.2 - p.2) - u2 * (q.1 - p.1) = 0 := by grind
  have f2 : w1 * (q.2 - p.2) - w2 * (q.1 - p.1) = 0 := by grind
  obtain ⟨X, hX⟩ : ∃ x, q.1 - p.1 = x := ⟨_, rfl⟩
  obtain ⟨Y, hY⟩ : ∃ x, q.2 - p.2 = x := ⟨_, rfl⟩
  rw [hX, hY] at f1 f2
  clear e1 e2 e3 e4 h1 h2 h3 h4
  have g1 : (u1 * w2 - u2 * w1) * X = 0 := by grind
  have g2 : (u1 * w2 - u2 * w1) * Y = 0 := by grind
  have x0 : X = 0 := (Rat.mul_eq_zero.1 g1).elim (fun e => absurd e hk) id
  have y0 : Y = 0 := (Rat.mul_eq_zero.1 g2).elim (fun e => absurd e hk) id
  exact Prod.ext (by grind) (by grind)
theorem cut_eq (a b c d : Pq) : (cutR a b c d).1 = (cutV a b c d).1 ∧ ((cutV a b c d).1 ≠ 0 → (cutR a b c d).2 = (cutV a b c d).2) ∧ ((cutV a b c d).1 = 0 → (cutV a b c d).2 = (0, 0)) := by
  unfold cutV
  by_cases h0 : tn a b c = 0 ∧ tn a b d = 0 ∧ tn c d a = 0 ∧ tn c d b = 0
  · rw [if_pos h0]
    obtain ⟨z1, z2, z3, z4⟩ := h0
    have bd : ∀ x ∈ ends a b c d, ple (pmx (pmn a b) (pmn c d)) x ∧ ple x (pmn (pmx a b) (pmx c d)) := fun x hx => by
      obtain ⟨g1, g2⟩ := ends_on hx
      have g1 := onQ_iff.1 g1
      have g2 := onQ_iff.1 g2
      exact ⟨pmx_le g1.2.1 g2.2.1, le_pmn g1.2.2 g2.2.2⟩
    unfold pieceV
    cases hl : plt (pmn (pmx a b) (pmx c d)).1 (pmn (pmx a b) (pmx c d)).2 (pmx (pmn a b) (pmn c d)).1 (pmx (pmn a b) (pmn c d)).2
    · have hle : ple (pmx (pmn a b) (pmn c d)) (pmn (pmx a b) (pmx c d)) := hl
      have mf : pmx (pmn a b) (pmn c d) ∈ ends a b c d := by
        have i1 := ple_trans hle (pmn_l _ _)
        have i2 := ple_trans hle (pmn_r _ _)
        have i3 := pmx_l (pmn a b) (pmn c d)
        have i4 := pmx_r (pmn a b) (pmn c d)
        rw [mem_ends]
        rcases pmx_or (pmn a b) (pmn c d) with e | e <;> rw [e] at i1 i2 i3 i4 ⊢
        · rcases pmn_or a b with f | f <;> rw [f] at i1 i2 i3 i4 ⊢
          · exact .inl ⟨onQ_iff.2 ⟨z3, i4, i2⟩, rfl⟩
          · exact .inr (.inl ⟨onQ_iff.2 ⟨z4, i4, i2⟩, rfl⟩)
        · rcases pmn_or c d with f | f <;> rw [f] at i1 i2 i3 i4 ⊢
          · exact .inr (.inr (.inl ⟨onQ_iff.2 ⟨z1, i3, i1⟩, rfl⟩))
          · exact .inr (.inr (.inr ⟨onQ_iff.2 ⟨z2, i3, i1⟩, rfl⟩))
      have mt : pmn (pmx a b) (pmx c d) ∈ ends a b c d := by
        have i1 := ple_trans (pmx_l _ _) hle
        have i2 := ple_trans (pmx_r _ _) hle
        have i3 := pmn_l (pmx a b) (pmx c d)
        have i4 := pmn_r (pmx a b) (pmx c d)
        rw [mem_ends]
        rcases pmn_or (pmx a b) (pmx c d) with e | e <;> rw [e] at i1 i2 i3 i4 ⊢
        · rcases pmx_or a b with f | f <;> rw [f] at i1 i2 i3 i4 ⊢
          · exact .inl ⟨onQ_iff.2 ⟨z3, i2, i4⟩, rfl⟩
          · exact .inr (.inl ⟨onQ_iff.2 ⟨z4, i2, i4⟩, rfl⟩)
        · rcases pmx_or c d with f | f <;> rw [f] at i1 i2 i3 i4 ⊢
          · exact .inr (.inr (.inl ⟨onQ_iff.2 ⟨z1, i1, i3⟩, rfl⟩))
          · exact .inr (.inr (.inr ⟨onQ_iff.2 ⟨z2, i1, i3⟩, rfl⟩))
      unfold cutR
      cases hE : ends a b c d with
      | nil => rw [hE] at mf; exact absurd mf (List.not_mem_nil)
      | cons e l =>
        rw [hE] at mf mt bd
        obtain ⟨p1, p2⟩ := fold_mn l e
        obtain ⟨p3, p4⟩ := fold_mx l e
        have q1 : l.foldl pmn e = pmx (pmn a b) (pmn c d) := ple_antisymm (p2 _ mf) (bd _ p1).1
        have q2 : l.foldl pmx e = pmn (pmx a b) (pmx c d) := ple_antisymm (bd _ p3).2 (p4 _ mt)
        simp only [q1, q2, Bool.false_eq_true, if_false]
        split <;> simp
    · rw [if_pos rfl]
      have hE : ends a b c d = [] := by
        cases hE : ends a b c d with
        | nil => rfl
        | cons e l =>
          rw [hE] at bd
          obtain ⟨g1, g2⟩ := bd e (List.mem_cons_self ..)
          have g3 : plt (pmn (pmx a b) (pmx c d)).1 (pmn (pmx a b) (pmx c d)).2 (pmx (pmn a b) (pmn c d)).1 (pmx (pmn a b) (pmn c d)).2 = false := ple_trans g1 g2
          rw [hl] at g3
          exact absurd g3 (by decide)
      unfold cutR
      rw [hE]
      simp only
      rw [if_pos (crs_tn z1 z2)]
      simp
  · rw [if_neg h0]
    by_cases h1 : 0 < tn a b c * tn a b d ∨ 0 < tn c d a * tn c d b
    · rw [if_pos h1]
      have no : ∀ p, ¬ (onQ a b p = true ∧ onQ c d p = true) := fun p ⟨g1, g2⟩ => by
        rcases h1 with h1 | h1
        · exact on_off (onQ_iff.1 g1).1 g2 h1
        · exact on_off (onQ_iff.1 g2).1 g1 h1
      have hE : ends a b c d = [] := by
        cases hE : ends a b c d with
        | nil => rfl
        | cons e l => exact absurd (ends_on (show e ∈ ends a b c d by rw [hE]; simp)) (no e)
      unfold cutR
      rw [hE]
      simp only
      split
      · simp
      · rw [if_neg (by rw [Bool.and_eq_true]; exact no _)]
        simp
    · rw [if_neg h1]
      have hk := crs_ne h0 h1
      have ho := cut_on (a := a) (b := b) (c := c) (d := d) (p := cutP a b c d) (n := 1) (by unfold cutV; rw [if_neg h0, if_neg h1]) (by decide)
      rw [← onQ_eq, ← onQ_eq] at ho
      have o1 := (onQ_iff.1 ho.1).1
      have o2 := (onQ_iff.1 ho.2).1
      have un : ∀ x ∈ ends a b c d, x = cutP a b c d := fun x hx => by
        obtain ⟨g1, g2⟩ := ends_on hx
        exact meet_one hk (onQ_iff.1 g1).1 (onQ_iff.1 g2).1 o1 o2
      unfold cutR
      cases hE : ends a b c d with
      | nil =>
        simp only
        rw [if_neg hk, ho.1, ho.2, Bool.and_self, if_pos rfl]
        simp
      | cons e l =>
        rw [hE] at un
        have q1 := un _ (fold_mn l e).1
        have q2 := un _ (fold_mx l e).1
        simp [q1, q2]
end Go.Proofs.YtobojnodohjiaaaGreatDoor
