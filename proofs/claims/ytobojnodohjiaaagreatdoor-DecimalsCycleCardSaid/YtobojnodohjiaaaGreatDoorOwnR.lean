
/- append onto a row of one's own beside numbers of the reference (the row's cells are of another type than theirs). No condition but those stated. -/
import Derived.Test.YtobojnodohjiaaaGreatDoorDecC
import Derived.Test.YtobojnodohjiaaaGreatDoorRoundD0
import Derived.Test.YtobojnodohjiaaaGreatDoorHp
import Derived.Maps.AppendAt
import Derived.Test.YtobojnodohjiaaaGreatDoorPL
namespace Go.Proofs.YtobojnodohjiaaaGreatDoor
open Go.RowKit
set_option linter.unusedSimpArgs false
set_option linter.unusedVariables false
theorem wo_eq (f : Nat) : ∀ (k x : Nat), x = f ^ (wo f x k).2 * (wo f x k).1
  | 0, x => by simp [wo]
  | k + 1, x => by
    unfold wo
    split
    · rename_i h
      have ih := wo_eq f k (x / f)
      have hd := Nat.mul_div_cancel' (Nat.dvd_of_mod_eq_zero h)
      show x = f ^ ((wo f (x / f) k).2 + 1) * (wo f (x / f) k).1
      rw [Nat.pow_succ, Nat.mul_comm (f ^ _) f, Nat.mul_assoc, ← ih, hd]
    · simp
theorem wo_end (f : Nat) : ∀ (k x : Nat), (wo f x k).2 < k → ¬ (wo f x k).1 % f = 0
  | 0, x, h => absurd h (by omega)
  | k + 1, x, h => by
    unfold wo at h ⊢
    split
    · rename_i h2
      rw [if_pos h2] at h
      exact wo_end f k (x / f) (by simpa using h)
    · rename_i h2
      exact h2
theorem cyr_end {d a : Nat} : ∀ (k p j : Nat), p = 10 ^ j % d → 101 ≤ j + k → a + cyr d a k p j ≤ 100 → 10 ^ (cyr d a k p j) % d = 1 ∧ j < cyr d a k p j ∧ ∀ i, j < i → i < cyr d a k p j → ¬ 10 ^ i % d = 1
  | 0, p, j, _, h1, h2 => by unfold cyr at h2; omega
  | k + 1, p, j, hp, h1, h2 => by
    have e : p * 10 % d = 10 ^ (j + 1) % d := by rw [hp, Nat.pow_succ, Nat.mod_mul_mod]
    by_cases h : p * 10 % d = 1 ∨ 100 < a + (j + 1)
    · rw [cyr_stop h] at h2 ⊢
      refine ⟨?_, by omega, fun i h3 h4 => by omega⟩
      rcases h with h | h
      · rw [← e]; exact h
      · omega
    · rw [cyr_go h] at h2 ⊢
      obtain ⟨g1, g2, g3⟩ := cyr_end k _ (j + 1) e (by omega) h2
      refine ⟨g1, by omega, fun i h3 h4 => ?_⟩
      by_cases hi : i = j + 1
      · subst hi; rw [← e]; exact fun h5 => h (.inl h5)
      · exact g3 i (by omega) h4
/-- the multiplier -/
def mul9 (n : Nat) : Nat := if n = 0 then 1 else 10 ^ n - 1
theorem ten_split (k : Nat) : 10 ^ k = 2 ^ k * 5 ^ k := by rw [← Nat.mul_pow]
theorem mul9_odd (n : Nat) : mul9 n % 2 = 1 := by
  unfold mul9
  split
  · rfl
  · rename_i h
    obtain ⟨k, rfl⟩ : ∃ k, n = k + 1 := ⟨n - 1, by omega⟩
    have : 0 < 10 ^ k := Nat.pow_pos (by decide)
    rw [Nat.pow_succ]; omega
theorem mul9_five (n : Nat) : mul9 n % 5 = 1 ∨ mul9 n % 5 = 4 := by
  unfold mul9
  split
  · left; rfl
  · rename_i h
    obtain ⟨k, rfl⟩ : ∃ k, n = k + 1 := ⟨n - 1, by omega⟩
    have : 0 < 10 ^ k := Nat.pow_pos (by decide)
    rw [Nat.pow_succ]; omega
theorem dvd_pred {d n : Nat} (hd : 1 < d) : 10 ^ n % d = 1 ↔ d ∣ 10 ^ n - 1 := by
  have hp : 0 < 10 ^ n := Nat.pow_pos (by decide)
  constructor
  · intro h
    have := Nat.div_add_mod (10 ^ n) d
    rw [h] at this
    exact ⟨10 ^ n / d, by omega⟩
  · rintro ⟨c, hc⟩
    have : 10 ^ n = d * c + 1 := by omega
    rw [this, Nat.mul_add_mod, Nat.mod_eq_of_lt hd]
section
variable {n : Nat} (hn : 0 < n) (hl : cya n + cyl n ≤ 100)
include hn hl
theorem cyc_parts : ∃ t f : Nat, n = 2 ^ t * (5 ^ f * cyd n) ∧ cya n = max t f ∧ ¬ cyd n % 2 = 0 ∧ ¬ cyd n % 5 = 0 ∧ 0 < cyd n := by
  have e1 := wo_eq 2 101 n
  have e2 := wo_eq 5 101 (wo 2 n 101).1
  have ha : cya n ≤ 100 := by omega
  unfold cya at ha
  have s1 := wo_end 2 101 n (by omega)
  have s2 := wo_end 5 101 (wo 2 n 101).1 (by omega)
  have p1 := wo_pos 2 101 n hn
  have p2 := wo_pos 5 101 _ p1
  refine ⟨_, _, e1.trans (congrArg (fun z => 2 ^ (wo 2 n 101).2 * z) e2), rfl, ?_, s2, p2⟩
  intro h
  apply s1
  rw [e2]
  have := Nat.mul_mod (5 ^ (wo 5 (wo 2 n 101).1 101).2) (wo 5 (wo 2 n 101).1 101).1 2
  unfold cyd at h
  rw [this, h, Nat.mul_zero, Nat.zero_mod]
theorem cyl_facts : (cyl n = 0 ∧ cyd n = 1) ∨ (0 < cyl n ∧ 1 < cyd n ∧ 10 ^ cyl n % cyd n = 1 ∧ ∀ i, 0 < i → i < cyl n → ¬ 10 ^ i % cyd n = 1) := by
  obtain ⟨t, f, _, _, _, _, hp⟩ := cyc_parts hn hl
  unfold cyl at hl ⊢
  by_cases h : cyd n = 1
  · left; rw [if_pos h]; exact ⟨rfl, h⟩
  · right
    rw [if_neg h] at hl ⊢
    obtain ⟨g1, g2, g3⟩ := cyr_end (a := cya n) 101 1 0 (by rw [Nat.pow_zero, Nat.mod_eq_of_lt (by omega)]) (by omega) hl
    exact ⟨g2, by omega, g1, g3⟩
theorem cyc_1 : n ∣ 10 ^ cya n * mul9 (cyl n) := by
  obtain ⟨t, f, e, ha, _, _, _⟩ := cyc_parts hn hl
  have h1 : 2 ^ t * 5 ^ f ∣ 10 ^ cya n := by
    rw [ten_split]
    exact Nat.mul_dvd_mul (Nat.pow_dvd_pow 2 (by omega)) (Nat.pow_dvd_pow 5 (by omega))
  have h2 : cyd n ∣ mul9 (cyl n) := by
    rcases cyl_facts hn hl with ⟨_, h⟩ | ⟨h0, h1, h2, _⟩
    · rw [h]; exact Nat.one_dvd _
    · unfold mul9; rw [if_neg (by omega)]
      exact (dvd_pred h1).1 h2
  have h3 := Nat.mul_dvd_mul h1 h2
  rwa [Nat.mul_assoc, ← e] at h3
end
end Go.Proofs.YtobojnodohjiaaaGreatDoor

namespace Go.Proofs.YtobojnodohjiaaaGreatDoor
open Go.RowKit
set_option linter.unusedSimpArgs false
set_option linter.unusedVariables false
theorem cyr_le {d a m : Nat} (hm : 10 ^ m % d = 1) (ham : a + m ≤ 100) : ∀ (k p j : Nat), p = 10 ^ j % d → j < m → m ≤ j + k → cyr d a k p j ≤ m
  | 0, p, j, _, h1, h2 => by omega
  | k + 1, p, j, hp, h1, h2 => by
    have e : p * 10 % d = 10 ^ (j + 1) % d := by rw [hp, Nat.pow_succ, Nat.mod_mul_mod]
    by_cases h : p * 10 % d = 1 ∨ 100 < a + (j + 1)
    · rw [cyr_stop h]; omega
    · rw [cyr_go h]
      have hne : ¬ j + 1 = m := by
        intro h3
        rw [h3] at e
        exact h (.inl (e.trans hm))
      exact cyr_le hm ham k _ (j + 1) e (by omega) (by omega)
theorem cop2 {Y : Nat} (h : Y % 2 = 1) : Nat.Coprime 2 Y := by
  unfold Nat.Coprime
  rw [Nat.gcd_rec, h]; rfl
theorem cop5 {Y : Nat} (h : Y % 5 = 1 ∨ Y % 5 = 4) : Nat.Coprime 5 Y := by
  unfold Nat.Coprime
  rw [Nat.gcd_rec]
  rcases h with h | h <;> rw [h] <;> decide
theorem two_le {t i Y : Nat} (h2 : Y % 2 = 1) (h : 2 ^ t ∣ 10 ^ i * Y) : t ≤ i := by
  rw [ten_split, Nat.mul_assoc] at h
  have c1 : Nat.Coprime (2 ^ t) (5 ^ i * Y) := Nat.Coprime.mul_right (Nat.Coprime.pow t i (by decide)) (Nat.Coprime.pow_left t (cop2 h2))
  exact (Nat.pow_dvd_pow_iff_le_right (by decide)).1 (c1.dvd_of_dvd_mul_right h)
theorem five_le {t i Y : Nat} (h5 : Y % 5 = 1 ∨ Y % 5 = 4) (h : 5 ^ t ∣ 10 ^ i * Y) : t ≤ i := by
  rw [ten_split, Nat.mul_comm (2 ^ i), Nat.mul_assoc] at h
  have c1 : Nat.Coprime (5 ^ t) (2 ^ i * Y) := Nat.Coprime.mul_right (Nat.Coprime.pow t i (by decide)) (Nat.Coprime.pow_left t (cop5 h5))
  exact (Nat.pow_dvd_pow_iff_le_right (by decide)).1 (c1.dvd_of_dvd_mul_right h)
theorem cyd_cop9 {n : Nat} (hn : 0 < n) (ha : cya n ≤ 100) : Nat.Coprime (cyd n) 10 ∧ 0 < cyd n := by
  have e2 := wo_eq 5 101 (wo 2 n 101).1
  unfold cya at ha
  have s1 := wo_end 2 101 n (by omega)
  have s2 := wo_end 5 101 (wo 2 n 101).1 (by omega)
  have p1 := wo_pos 2 101 n hn
  have p2 := wo_pos 5 101 _ p1
  have h2 : ¬ cyd n % 2 = 0 := by
    intro h
    apply s1
    rw [e2]
    have := Nat.mul_mod (5 ^ (wo 5 (wo 2 n 101).1 101).2) (wo 5 (wo 2 n 101).1 101).1 2
    unfold cyd at h
    rw [this, h, Nat.mul_zero, Nat.zero_mod]
  have h5 : ¬ cyd n % 5 = 0 := s2
  have c2 : Nat.Coprime (cyd n) 2 := by rw [Nat.coprime_comm]; exact cop2 (by omega)
  have c5 : Nat.Coprime (cyd n) 5 := by
    have : Nat.gcd 5 (cyd n) = 1 := by
      rw [Nat.gcd_rec]
      have h : cyd n % 5 = 1 ∨ cyd n % 5 = 2 ∨ cyd n % 5 = 3 ∨ cyd n % 5 = 4 := by omega
      rcases h with h | h | h | h <;> rw [h]
      all_goals decide
    rw [Nat.coprime_comm]; exact this
  exact ⟨Nat.Coprime.mul_right c2 c5, p2⟩
/-- a repetition bounds Cycle's answer -/
theorem cyc_rep {n i m : Nat} (hn : 0 < n) (h : n ∣ 10 ^ i * mul9 m) (hi : i + m ≤ 100) : cya n ≤ i ∧ cyl n ≤ m ∧ (m = 0 → cyd n = 1) := by
  have e1 := wo_eq 2 101 n
  have e2 := wo_eq 5 101 (wo 2 n 101).1
  have d1 : 2 ^ (wo 2 n 101).2 ∣ n := ⟨_, e1⟩
  have dx : (wo 2 n 101).1 ∣ n := ⟨_, by rw [Nat.mul_comm]; exact e1⟩
  have d2 : 5 ^ (wo 5 (wo 2 n 101).1 101).2 ∣ n := Nat.dvd_trans ⟨_, e2⟩ dx
  have dc : cyd n ∣ n := Nat.dvd_trans ⟨_, by rw [Nat.mul_comm]; exact e2⟩ dx
  have t1 := two_le (mul9_odd m) (Nat.dvd_trans d1 h)
  have t2 := five_le (mul9_five m) (Nat.dvd_trans d2 h)
  have ha : cya n ≤ i := by unfold cya; omega
  obtain ⟨hc, hp⟩ := cyd_cop9 hn (by omega)
  have hd : cyd n ∣ mul9 m := (Nat.Coprime.pow_right i hc).dvd_of_dvd_mul_left (Nat.dvd_trans dc h)
  by_cases h1 : cyd n = 1
  · exact ⟨ha, by unfold cyl; rw [if_pos h1]; omega, fun _ => h1⟩
  · have hm : m ≠ 0 := by
      intro hm
      rw [hm] at hd
      exact h1 (Nat.dvd_one.1 hd)
    unfold mul9 at hd
    rw [if_neg hm] at hd
    have h3 := (dvd_pred (show 1 < cyd n by omega)).2 hd
    refine ⟨ha, ?_, fun h => absurd h hm⟩
    unfold cyl
    rw [if_neg h1]
    exact cyr_le h3 (by omega) 101 1 0 (by rw [Nat.pow_zero, Nat.mod_eq_of_lt (by omega)]) (by omega) (by omega)
/-- the remainders -/
def rmd (a n j : Nat) : Nat := a * 10 ^ j % n
theorem rmd_zero (a n : Nat) : rmd a n 0 = a % n := by unfold rmd; rw [Nat.pow_zero, Nat.mul_one]
theorem rmd_succ (a n j : Nat) : rmd a n (j + 1) = rmd a n j * 10 % n := by
  unfold rmd; rw [Nat.pow_succ, ← Nat.mul_assoc, Nat.mod_mul_mod]
theorem rmd_nil {a n j : Nat} (hc : Nat.Coprime a n) : rmd a n j = 0 ↔ n ∣ 10 ^ j := by
  unfold rmd
  constructor
  · intro h
    exact (Nat.Coprime.symm hc).dvd_of_dvd_mul_left (Nat.dvd_of_mod_eq_zero h)
  · intro h
    exact Nat.mod_eq_zero_of_dvd (Nat.dvd_trans h (Nat.dvd_mul_left _ _))
theorem rmd_back {a n i m : Nat} (hc : Nat.Coprime a n) (hm : 0 < m) : rmd a n i = rmd a n (i + m) ↔ n ∣ 10 ^ i * mul9 m := by
  have hm0 : ¬ m = 0 := by omega
  have hp : 0 < 10 ^ m := Nat.pow_pos (by decide)
  obtain ⟨q, hq⟩ : ∃ q, 10 ^ m = q + 1 := ⟨10 ^ m - 1, by omega⟩
  have e9 : mul9 m = q := by unfold mul9; rw [if_neg hm0, hq]; rfl
  have e : a * 10 ^ (i + m) = a * 10 ^ i + a * (10 ^ i * q) := by rw [Nat.pow_add, hq, Nat.mul_add, Nat.mul_one, Nat.mul_add, Nat.add_comm]
  unfold rmd
  rw [e9, e]
  constructor
  · intro h
    have h2 := Nat.sub_mod_eq_zero_of_mod_eq h.symm
    rw [Nat.add_sub_cancel_left] at h2
    exact (Nat.Coprime.symm hc).dvd_of_dvd_mul_left (Nat.dvd_of_mod_eq_zero h2)
  · rintro ⟨c, h⟩
    rw [h, Nat.mul_left_comm, Nat.add_mul_mod_self_left]
/-- none of the first k remainders ends the search -/
def nst (a n k : Nat) : Prop := ∀ j, j < k → j ≤ 100 → ¬ rmd a n j = 0 ∧ ∀ i, i < j → ¬ rmd a n i = rmd a n j
theorem nst_zero (a n : Nat) : nst a n 0 := fun j h => absurd h (Nat.not_lt_zero _)
theorem nst_succ {a n k : Nat} (h : nst a n k) (h2 : k ≤ 100 → ¬ rmd a n k = 0 ∧ ∀ i, i < k → ¬ rmd a n i = rmd a n k) : nst a n (k + 1) := fun j hj h1 => by
  rcases Nat.lt_succ_iff_lt_or_eq.1 hj with h3 | rfl
  · exact h j h3 h1
  · exact h2 h1
theorem cyc_hit {n : Nat} (h : cya n + cyl n ≤ 100) : cyc n = ((cya n : Int), (cyl n : Int), 0) := by unfold cyc; rw [if_neg (by omega)]
/-- the search ends at remainder zero -/
theorem cyc_end0 {a n k : Nat} (hn : 0 < n) (hc : Nat.Coprime a n) (hs : nst a n k) (hk : k ≤ 100) (h : rmd a n k = 0) : cyc n = ((k : Int), 0, 0) := by
  have h1 := (rmd_nil hc).1 h
  obtain ⟨g1, g2, _⟩ := cyc_rep (i := k) (m := 0) hn (by rw [show mul9 0 = 1 from rfl, Nat.mul_one]; exact h1) (by omega)
  have hl : cyl n = 0 := by omega
  have h2 := cyc_1 hn (show cya n + cyl n ≤ 100 by omega)
  rw [hl, show mul9 0 = 1 from rfl, Nat.mul_one] at h2
  have h3 := (rmd_nil hc).2 h2
  have h4 : cya n = k := by
    rcases Nat.lt_or_ge (cya n) k with h5 | h5
    · exact absurd h3 (hs _ h5 (by omega)).1
    · omega
  rw [cyc_hit (by omega), hl, h4]; rfl
/-- the search ends at a remainder that came back -/
theorem cyc_end1 {a n i k : Nat} (hn : 0 < n) (hc : Nat.Coprime a n) (hs : nst a n k) (hk : k ≤ 100) (hi : i < k) (h0 : ¬ rmd a n k = 0) (h : rmd a n i = rmd a n k) : cyc n = ((i : Int), (k : Int) - (i : Int), 0) := by
  obtain ⟨m, rfl⟩ : ∃ m, k = i + m := ⟨k - i, by omega⟩
  obtain ⟨g1, g2, _⟩ := cyc_rep hn ((rmd_back hc (by omega)).1 h) (by omega)
  have h2 := cyc_1 hn (show cya n + cyl n ≤ 100 by omega)
  have hl : 0 < cyl n := by
    rcases Nat.eq_zero_or_pos (cyl n) with h3 | h3
    · rw [h3, show mul9 0 = 1 from rfl, Nat.mul_one] at h2
      exact absurd ((rmd_nil hc).2 h2) (hs _ (by omega) (by omega)).1
    · exact h3
  have h3 := (rmd_back hc hl).2 h2
  have h4 : cya n + cyl n = i + m := by
    rcases Nat.lt_or_ge (cya n + cyl n) (i + m) with h5 | h5
    · exact absurd h3 ((hs _ h5 (by omega)).2 _ (by omega))
    · omega
  rw [cyc_hit (by omega), show cya n = i by omega, show cyl n = m by omega]
  congr 2
  omega
/-- the search does not end -/
theorem cyc_end2 {a n k : Nat} (hn : 0 < n) (hc : Nat.Coprime a n) (hs : nst a n k) (hk : 100 < k) : cyc n = (0, 0, 3) := by
  unfold cyc
  rw [if_pos]
  rcases Nat.lt_or_ge 100 (cya n + cyl n) with h | h
  · exact h
  · exfalso
    have h2 := cyc_1 hn h
    rcases Nat.eq_zero_or_pos (cyl n) with h3 | h3
    · rw [h3, show mul9 0 = 1 from rfl, Nat.mul_one] at h2
      exact (hs _ (by omega) (by omega)).1 ((rmd_nil hc).2 h2)
    · exact (hs (cya n + cyl n) (by omega) h).2 _ (by omega) ((rmd_back hc h3).2 h2)
end Go.Proofs.YtobojnodohjiaaaGreatDoor

namespace Go.Proofs.YtobojnodohjiaaaGreatDoor
open Go.RowKit
set_option linter.unusedVariables false
/-- the slice v of n elements (k cells each, xs) lies at the head of the block b, whose content is cur -/
def RowV (b : Nat) (cur : Array Value) (k : Nat) (v : Value) (n : Nat) (xs : List Value) : Prop :=
  ∃ cap, v = .slice (some ⟨b, 0, none⟩) n cap ∧ n ≤ cap ∧ cap ≤ maxLen ∧ cur.size = cap * k ∧ cur.toList.take (n * k) = xs ∧ xs.length = n * k
section
variable {w0 W W' : World} {L : List Fk} {b E k n : Nat} {cur : Array Value} {v : Value} {xs : List Value}
theorem RowV.own (h : RowV b cur k v n xs) (hB : Bx W b E cur) (hle : w0.heap.size ≤ b) : W.ownsRow w0.heap.size E k v n xs := by
  obtain ⟨cap, rfl, h1, h2, h3, h4, h5⟩ := h
  exact ⟨h5, .inr ⟨b, cap, cur, rfl, hle, hB, h1, h2, h3, h4⟩⟩
theorem RowV.sl (h : RowV b cur k v n xs) : ∃ cap, v = .slice (some ⟨b, 0, none⟩) n cap := by
  obtain ⟨cap, e, _⟩ := h; exact ⟨cap, e⟩
theorem RowV.cell (h : RowV b cur k v n xs) (hB : Bx W b E cur) (g : Gr W W') (i : Nat) (hi : i < n * k) : W'.cell? ⟨b, i, none⟩ = xs[i]? := by
  obtain ⟨cap, rfl, h1, h2, h3, h4, h5⟩ := h
  rw [hB.cells W' g, ← h4, List.getElem?_take_of_lt hi, Array.getElem?_toList]
theorem Rn.kept {u : Value} {m : Nat} {row : Option Nat} (h : Rn W u m) (g : W.grownBy W' row) (hne : ∀ j, row = some j → u.ownBlock ≠ some j) : Rn W' u m := by
  refine World.ownsRow.kept h g ?_
  cases hr : row with
  | none => cases hu : u.ownBlock with
    | none => exact .inl rfl
    | some j => exact .inr (by simp)
  | some j => exact .inr (hne j hr)
end
end Go.Proofs.YtobojnodohjiaaaGreatDoor

namespace Go.Proofs.YtobojnodohjiaaaGreatDoor
open Go.RowKit
set_option linter.unusedSimpArgs false
set_option linter.unusedVariables false
/-- the cells of a fraction -/
def fcl (q : Rat) : List Value := [.int .u64 ((lo (Int.natAbs ((q).num)) : Nat) : Int), .string (bg (Int.natAbs ((q).num))), .bool (decide (((q).num) < 0)), .int .u64 ((lo ((q).den - 1) : Nat) : Int), .string (bg ((q).den - 1))]
/-- a slice of fractions -/
def Fs (w : World) (v : Value) (n : Nat) (f : Nat → Rat) : Prop :=
  (∃ ao c, v = .slice ao n c ∧ n = 0) ∨ ∃ b o c, v = .slice (some ⟨b, o, none⟩) n c ∧ b < w.heap.size ∧ ∀ i, i < n → ∀ j, j < 5 → w.cell? ⟨b, o + i * 5 + j, none⟩ = (fcl (f i))[j]?
theorem Fs.gr {w w' : World} {v : Value} {n : Nat} {f : Nat → Rat} (h : Fs w v n f) (hg : Gr w w') : Fs w' v n f := by
  rcases h with h | ⟨b, o, c, rfl, hb, hc⟩
  · exact .inl h
  · exact .inr ⟨b, o, c, rfl, Nat.lt_of_lt_of_le hb hg.size, fun i hi j hj => (Below.cell hg (p := ⟨b, o + i * 5 + j, none⟩) hb).trans (hc i hi j hj)⟩
theorem Fs.slice {w : World} {v : Value} {n : Nat} {f : Nat → Rat} (h : Fs w v n f) : ∃ ao c, v = .slice ao n c := by
  rcases h with ⟨ao, c, rfl, _⟩ | ⟨b, o, c, rfl, _⟩
  · exact ⟨_, _, rfl⟩
  · exact ⟨_, _, rfl⟩
end Go.Proofs.YtobojnodohjiaaaGreatDoor

namespace Go.Proofs.YtobojnodohjiaaaGreatDoor
open Go.RowKit
set_option linter.unusedVariables false
section
variable {w0 W : World} {L : List Fk} {E k n : Nat} {v : Value} {xs : List Value}
/-- the known blocks are others than the slice's -/
def Apart (L : List Fk) (v : Value) : Prop := ∀ (i : Nat) (x : Nat × TypeId × Array Value), L[i]? = some (Sum.inl x) → v.ownBlock ≠ some x.1
theorem HP.grown {W' : World} {row : Option Nat} (h : HP w0 W L) (hrow : ∀ j, row = some j → w0.heap.size ≤ j) (hM : ∀ (i : Nat) (x : Nat × TypeId × Array Value), L[i]? = some (Sum.inl x) → row ≠ some x.1)
    (hR : ∀ (i : Nat) (v : Value) (m : Nat), L[i]? ≠ some (Sum.inr (v, m))) (g : W.grownBy W' row) : HP w0 W' L := by
  obtain ⟨h1, h2, h3⟩ := h
  refine ⟨h1.grown g h1.size hrow, fun i e he => ?_, h3⟩
  have := h2 i e he
  rcases e with ⟨c, S, ds⟩ | ⟨u, m⟩
  · exact ⟨(g.block c this.1.lt (fun e => hM i _ he e.symm)).trans this.1, this.2⟩
  · exact absurd he (hR i u m)
theorem own_at (own : W.ownsRow w0.heap.size E k v n xs) : ∀ j, v.ownBlock = some j → w0.heap.size ≤ j := by
  obtain ⟨_, ⟨rfl, _⟩ | ⟨g, cap, cur, rfl, h, _⟩⟩ := own
  · intro j hj; cases hj
  · intro j hj; injection hj with hj; subst hj; exact h
theorem own_gr {B : Nat} {W' : World} (h : W.ownsRow B E k v n xs) (hg : Gr W W') : W'.ownsRow B E k v n xs := by
  obtain ⟨hl, h | ⟨g, cap, cur, rfl, h0, hc, h1⟩⟩ := h
  · exact ⟨hl, .inl h⟩
  · exact ⟨hl, .inr ⟨g, cap, cur, rfl, h0, Bx.gr (show Bx W g E cur from hc) hg, h1⟩⟩
end
end Go.Proofs.YtobojnodohjiaaaGreatDoor

namespace Go.Proofs.YtobojnodohjiaaaGreatDoor
open Go.RowKit
set_option linter.unusedVariables false
section
variable {w0 W : World} {L : List Fk} {E k n : Nat} {v : Value} {xs : List Value}
theorem apZ {ops : Array Oper} {rest : List Oper} {o : Oper} {a : Act} {Q : Exit → Act → World → Prop} {ad : Addr} {m c bytes : Nat} {news : List Value} {i : TypeInfo} {z : Value} (HG : Hid (HP w0 W L)) (own : Hid (W.ownsRow w0.heap.size E k v n xs)) (HA : Hid (Apart L v)) (s x : Operand) (t : TypeId)
    (hi : Tryz.prog.info? E = some i) (hz : i.zero = some z) (hsize : i.size = k) (hby : i.bytes = bytes) (hzs : z.cells.size = k) (hty : Tryz.prog.underlying t = some (.slice E)) (hE : E ≠ 3)
    (h63 : n + m ≤ maxLen) (hbytes : (n + m) * bytes ≤ 140737488355328)
    (hv : a.eval s = v) (hx : a.eval x = .slice (some ad) m c) (hnews : Hid (∀ j u, news[j]? = some u → W.cell? (ad.add j) = some u)) (hl : news.length = m * k) (h1 : ∀ u ∈ news, u.oneCell' = true) (hk : 0 < k)
    (ho : o.op = .call { callee := .builtin .append, args := #[s, x], argTypes := #[t, t] }) (hgd : o.guard = none)
    (h : ∀ v' W', Hid (HP w0 W' L) → Hid (W'.ownsRow w0.heap.size E k v' (n + m) (xs ++ news)) → Hid (Apart L v') → wpList Tryz.prog ops Q rest (a.put o.dst v') W') : wpList Tryz.prog ops Q (o :: rest) a W := by
  refine wpList_append_own_at W hgd s x t ho w0.heap.size E i z k bytes hty hi hz hsize hby hzs hk v n xs hv own.out ad m c news hx hl hnews.out h1 h63 hbytes HG.out.1.size ?_
  intro v' W' own' grown _ hat
  have hne : ∀ (u : Value) (q : Nat), Rn W u q → ∀ j, v.ownBlock = some j → u.ownBlock ≠ some j := fun u q hu j hj => by
    obtain ⟨_, ⟨rfl, _⟩ | ⟨g, cap, cur, rfl, _, hc, _⟩⟩ := own.out
    · cases hj
    · injection hj with hj
      subst hj
      exact Rn.ne hu (show Bx W g E cur from hc) hE
  have hbase : HP w0 W' L := by
    obtain ⟨g1, g2, g3⟩ := HG.out
    refine ⟨g1.grown grown g1.size (own_at own.out), fun i e he => ?_, g3⟩
    have h2 := g2 i e he
    rcases e with ⟨c, S, ds⟩ | ⟨u, q⟩
    · exact ⟨(grown.block c h2.1.lt (fun e => HA.out i _ he e.symm)).trans h2.1, h2.2⟩
    · exact Rn.kept h2 grown (hne u q h2)
  refine h v' W' (Lib.hid hbase) (Lib.hid own') (Lib.hid fun j y hy e => ?_)
  rcases hat with ha | ha
  · exact HA.out j y hy (ha ▸ e)
  · have := HG.out.lt j y hy
    rw [e] at ha
    injection ha with ha
    omega
/-- the cells of a row of one's own that is not empty -/
theorem own_cell (h : W.ownsRow w0.heap.size E 1 v n xs) (hn : 0 < n) : ∃ b cap, v = .slice (some ⟨b, 0, none⟩) n cap ∧ b < W.heap.size ∧ ∀ i, i < n → W.cell? ⟨b, i, none⟩ = xs[i]? := by
  obtain ⟨hl, ⟨_, h0⟩ | ⟨b, cap, cur, rfl, hg, hc, h1, h2, h3, h4⟩⟩ := h
  · omega
  · have hB : Bx W b E cur := hc
    refine ⟨b, cap, rfl, hB.lt, fun i hi => ?_⟩
    have hlt : i < n * 1 := by omega
    rw [hB.cells W (Gr.refl _), ← h4, List.getElem?_take_of_lt hlt, Array.getElem?_toList]
end
end Go.Proofs.YtobojnodohjiaaaGreatDoor
