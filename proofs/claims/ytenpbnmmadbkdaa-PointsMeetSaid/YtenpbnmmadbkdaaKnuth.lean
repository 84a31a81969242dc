/- The arithmetic of the long division (Knuth's algorithm D): the window, the digit's estimate, the rows behind a step. No condition; nothing here runs the program. -/
import Derived.Test.YtenpbnmmadbkdaaShort
namespace Go.Proofs.Ytenpbnmmadbkdaa
open Go.RowKit

theorem dg_shift (r k t : Nat) : dg r (k + t) = dg (r / bp k) t := by
  unfold dg; rw [bp_add, Nat.div_div_eq_div_mul]

/-- the window of the division's step: the number above the first k words -/
theorem window {r v k n : Nat} (hr : r < v * bp (k + 1)) (hv : v < bp n) : r / bp k < v * 4294967296 ∧ r / bp k < bp (n + 1) ∧ vl (fun t => dg r (k + t)) (n + 1) = r / bp k := by
  have h1 : r / bp k < v * 4294967296 := by
    refine Nat.div_lt_of_lt_mul ?_
    rw [bp_succ] at hr
    have : bp k * (v * 4294967296) = v * (4294967296 * bp k) := by grind
    omega
  have h2 : r / bp k < bp (n + 1) := by
    rw [bp_succ]
    omega
  refine ⟨h1, h2, ?_⟩
  rw [vl_congr (g := dg (r / bp k)) (fun t _ => dg_shift r k t)]
  exact vl_dg_of_lt h2

/-- the top three words of a number of p + 3 words -/
theorem top3 {w p : Nat} (h : w < bp (p + 3)) : w / bp p = (dg w (p + 2) * 4294967296 + dg w (p + 1)) * 4294967296 + dg w p := by
  have e1 : w / bp (p + 1) = w / bp p / 4294967296 := by rw [bp_succ, Nat.mul_comm, Nat.div_div_eq_div_mul]
  have e2 : w / bp (p + 2) = w / bp (p + 1) / 4294967296 := by rw [bp_succ (p + 1), Nat.mul_comm, Nat.div_div_eq_div_mul]
  have h3 : w / bp (p + 2) < 4294967296 := Nat.div_lt_of_lt_mul (by rw [Nat.mul_comm, ← bp_succ]; exact h)
  unfold dg
  generalize w / bp (p + 2) = c at *
  generalize w / bp (p + 1) = b at *
  generalize w / bp p = a at *
  omega
theorem top2 {v p : Nat} (h : v < bp (p + 2)) : v / bp p = dg v (p + 1) * 4294967296 + dg v p := by
  have e1 : v / bp (p + 1) = v / bp p / 4294967296 := by rw [bp_succ, Nat.mul_comm, Nat.div_div_eq_div_mul]
  have h3 : v / bp (p + 1) < 4294967296 := Nat.div_lt_of_lt_mul (by rw [Nat.mul_comm, ← bp_succ]; exact h)
  unfold dg
  generalize v / bp (p + 1) = b at *
  generalize v / bp p = a at *
  omega

/-- a digit that fails the test on the top words is too great -/
theorem guess_high {w v P d : Nat} (hP : 0 < P) (h : w / P < d * (v / P)) : w / v < d := by
  refine Nat.div_lt_of_lt_mul ?_
  have h1 : w < (w / P + 1) * P := by
    have := Nat.div_add_mod w P
    have := Nat.mod_lt w hP
    have e : (w / P + 1) * P = P * (w / P) + P := by grind
    omega
  have h2 : (w / P + 1) * P ≤ d * (v / P) * P := Nat.mul_le_mul_right _ h
  have h3 : v / P * P ≤ v := Nat.div_mul_le_self v P
  have h4 : d * (v / P) * P ≤ v * d := by
    rw [Nat.mul_assoc, Nat.mul_comm v d]
    exact Nat.mul_le_mul_left _ h3
  omega

/-- a digit that meets it is too great by one at most -/
theorem guess_low {w v P d : Nat} (hP : 0 < P) (hd : d ≤ 4294967295) (hv : 4294967296 * P ≤ v) (h : d * (v / P) ≤ w / P) : d ≤ w / v + 1 := by
  rcases Nat.lt_or_ge (w / v + 1) d with hlt | hge
  · exfalso
    have hv0 : 0 < v := by omega
    have h1 : w < v * (w / v + 1) := by
      have := Nat.div_add_mod w v
      have := Nat.mod_lt w hv0
      have e : v * (w / v + 1) = v * (w / v) + v := by grind
      omega
    have h2 : d * v ≤ w + d * (v % P) := by
      have h3 : d * (v / P) * P ≤ w / P * P := Nat.mul_le_mul_right _ h
      have h4 : w / P * P ≤ w := Nat.div_mul_le_self w P
      have h5 : v = v / P * P + v % P := by rw [Nat.mul_comm]; exact (Nat.div_add_mod v P).symm
      have h6 : d * v = d * (v / P) * P + d * (v % P) := by
        have : d * v = d * (v / P * P + v % P) := by rw [← h5]
        rw [this]; grind
      omega
    have h7 : d * (v % P) ≤ 4294967295 * P := Nat.mul_le_mul hd (Nat.le_of_lt (Nat.mod_lt _ hP))
    have h8 : (w / v + 2) * v ≤ d * v := Nat.mul_le_mul_right _ hlt
    have h9 : (w / v + 2) * v = v * (w / v + 1) + v := by grind
    omega
  · exact hge

/-- the row behind a step: the window is the window's rest -/
theorem next_row {r v k : Nat} : r % (v * bp k) = r / bp k % v * bp k + r % bp k := by
  rw [Nat.mul_comm v, Nat.mod_mul, Nat.mul_comm (bp k)]
  omega
theorem next_digit {u v k : Nat} : u % (v * bp (k + 1)) / bp k / v = dg (u / v) k := by
  unfold dg
  have e1 : v * bp (k + 1) = bp k * v * 4294967296 := by rw [bp_succ]; grind
  rw [Nat.div_div_eq_div_mul, e1, Nat.mod_mul_right_div_self, Nat.div_div_eq_div_mul, Nat.mul_comm v]
theorem next_rest {u v k : Nat} : u % (v * bp (k + 1)) % (v * bp k) = u % (v * bp k) := by
  refine Nat.mod_mod_of_dvd _ ?_
  rw [bp_succ]
  exact ⟨4294967296, by grind⟩

/-- a row whose window holds x, and is as r's outside it -/
theorem row_value {G : Nat → Nat} {r k n N : Nat} (hN : k + n + 1 ≤ N) (hG : ∀ t, t < N → G t < 4294967296) (hout : ∀ t, t < k ∨ k + n < t → G t = dg r t) (hr : r < bp (k + n + 1)) :
    ∀ t, t < N → G t = dg (vl (fun t => G (k + t)) (n + 1) * bp k + r % bp k) t := by
  have h1 : vl G N = vl (fun t => G (k + t)) (n + 1) * bp k + r % bp k := by
    have e : N = k + (N - k) := by omega
    rw [e, vl_split, vl_congr (g := dg r) (fun i hi => hout i (.inl hi)), vl_dg, Nat.mul_comm (bp k), Nat.add_comm]
    congr 2
    refine vl_tail (by omega) fun i h2 h3 => ?_
    rw [hout _ (.inr (by omega))]
    exact dg_high hr (by omega)
  intro t ht
  rw [← h1]
  exact (dg_vl hG ht).symm

/-- what the subtraction leaves: nothing lent: the digit is the quotient's -/
theorem less_zero {X d v w P : Nat} (hv : 0 < v) (h : X + d * v = w + 0 * P) (hd : w / v ≤ d) : d = w / v ∧ X = w % v := by
  have h1 := Nat.div_add_mod w v
  have h2 : d ≤ w / v := (Nat.le_div_iff_mul_le hv).2 (by omega)
  obtain rfl : d = w / v := by omega
  rw [Nat.mul_comm] at h1
  refine ⟨rfl, ?_⟩
  omega
/-- lent: the digit is one too great -/
theorem less_one {X d v w P : Nat} (h : X + d * v = w + 1 * P) (hX : X < P) (hd : d ≤ w / v + 1) : d = w / v + 1 ∧ X + v = P + w % v := by
  have h1 := Nat.div_add_mod w v
  have h2 : w / v < d := Nat.div_lt_of_lt_mul (by rw [Nat.mul_comm]; omega)
  obtain rfl : d = w / v + 1 := by omega
  refine ⟨rfl, ?_⟩
  rw [Nat.add_mul, Nat.mul_comm (w / v)] at h
  omega

/-- the row while v is added back -/
def BackRow (G : Nat → Nat) (k v i c N b : Nat) (wr : World) (A : Nat → Nat) : Prop :=
  Ws wr b N A ∧ (∀ t, t < N → A t < 4294967296) ∧ (∀ t, t < k ∨ k + i ≤ t → A t = G t) ∧ c ≤ 1 ∧ vl (fun t => A (k + t)) i + c * bp i = vl (fun t => G (k + t)) i + vl (dg v) i

theorem BackRow.step {G : Nat → Nat} {k v i c N b : Nat} {wr : World} {A : Nat → Nat} (h : BackRow G k v i c N b wr A) (hi : k + i < N) :
    BackRow G k v (i + 1) ((G (k + i) + dg v i + c) / 4294967296) N b (wr.setCell ⟨b, k + i, none⟩ (.int .u32 (((G (k + i) + dg v i + c) % 4294967296 : Nat) : Int)))
      (fun t => if t = k + i then (G (k + i) + dg v i + c) % 4294967296 else A t) := by
  obtain ⟨h1, h2, h3, h4, h5⟩ := h
  have hG : G (k + i) < 4294967296 := by rw [← h3 _ (.inr (Nat.le_refl _))]; exact h2 _ hi
  have hd := dg_lt v i
  refine ⟨h1.set _ _, fun t ht => ?_, fun t ht => ?_, by omega, ?_⟩
  · dsimp only
    split
    · exact Nat.mod_lt _ (by decide)
    · exact h2 t ht
  · dsimp only
    rw [if_neg (by omega)]; exact h3 t (by omega)
  · have e : vl (fun t => (fun t => if t = k + i then (G (k + i) + dg v i + c) % 4294967296 else A t) (k + t)) i = vl (fun t => A (k + t)) i :=
      vl_congr fun t ht => by simp only [show ¬ k + t = k + i by omega, if_false]
    rw [vl_succ, vl_succ, vl_succ, bp_succ, e]
    simp only [if_true]
    exact add_step h5

theorem BackRow.last {G : Nat → Nat} {k v n c N b y : Nat} {wr : World} {A : Nat → Nat} (h : BackRow G k v n c N b wr A) (hn : k + n < N) (hv : v < bp n)
    (hX : vl (fun t => G (k + t)) (n + 1) + v = bp (n + 1) + y) :
    Ws (wr.setCell ⟨b, k + n, none⟩ (.int .u32 (((G (k + n) + c) % 4294967296 : Nat) : Int))) b N (fun t => if t = k + n then (G (k + n) + c) % 4294967296 else A t) ∧
    (∀ t, t < N → (if t = k + n then (G (k + n) + c) % 4294967296 else A t) < 4294967296) ∧ (∀ t, t < k ∨ k + n < t → (if t = k + n then (G (k + n) + c) % 4294967296 else A t) = G t) ∧
    vl (fun t => if k + t = k + n then (G (k + n) + c) % 4294967296 else A (k + t)) (n + 1) = y := by
  obtain ⟨h1, h2, h3, h4, h5⟩ := h
  have hb : ∀ t, t < N → (if t = k + n then (G (k + n) + c) % 4294967296 else A t) < 4294967296 := fun t ht => by
    split
    · exact Nat.mod_lt _ (by decide)
    · exact h2 t ht
  have hG : G (k + n) < 4294967296 := by rw [← h3 _ (.inr (Nat.le_refl _))]; exact h2 _ hn
  refine ⟨h1.set _ _, hb, fun t ht => ?_, ?_⟩
  · rw [if_neg (by omega)]; exact h3 t (by omega)
  · have e : vl (fun t => if k + t = k + n then (G (k + n) + c) % 4294967296 else A (k + t)) n = vl (fun t => A (k + t)) n :=
      vl_congr fun t ht => by simp only [show ¬ k + t = k + n by omega, if_false]
    have hlt : vl (fun t => if k + t = k + n then (G (k + n) + c) % 4294967296 else A (k + t)) (n + 1) < bp (n + 1) := vl_lt fun t ht => hb (k + t) (by omega)
    rw [vl_succ, e] at hlt ⊢
    rw [vl_succ, bp_succ] at hX
    rw [bp_succ] at hlt
    simp only [if_true] at hlt ⊢
    rw [vl_dg_of_lt hv] at h5
    have hs : (G (k + n) + c) % 4294967296 * bp n + (G (k + n) + c) / 4294967296 * (4294967296 * bp n) = G (k + n) * bp n + c * bp n := by
      rw [← Nat.mul_assoc, ← Nat.add_mul, ← Nat.add_mul]
      congr 1
      omega
    have hq : (G (k + n) + c) / 4294967296 = 0 ∨ (G (k + n) + c) / 4294967296 = 1 := by omega
    rcases hq with hq | hq <;> rw [hq] at hs <;> simp only [Nat.zero_mul, Nat.one_mul] at hs <;> omega

theorem bitLenAux_lt : ∀ (f x : Nat), x < 2 ^ f → x < 2 ^ Lib.bitLenAux f x
  | 0, x, h => by simpa [Lib.bitLenAux] using h
  | f + 1, x, h => by
    unfold Lib.bitLenAux
    split
    · next e => subst e; decide
    · have := bitLenAux_lt f (x / 2) (by omega)
      rw [Nat.pow_add, Nat.pow_one]
      omega
theorem bitLen_lt {x : Nat} (h : x < 4294967296) : x < 2 ^ Lib.bitLen x := bitLenAux_lt 64 x (by omega)
theorem bitLen_pos {x : Nat} (h : x ≠ 0) : 1 ≤ Lib.bitLen x := by
  unfold Lib.bitLen Lib.bitLenAux
  rw [if_neg h]
  omega

/-- the shift that brings the top word's first bit to the front -/
theorem norm_shift {b : Nat} (hb : 0 < b) : ∃ s : Nat, s < 32 ∧ (32 : Int) - (Lib.bitLen (dg b (wl b - 1)) : Int) = (s : Int) ∧ b * 2 ^ s < bp (wl b) := by
  have ht := dg_top hb
  have hd := dg_lt b (wl b - 1)
  have hp := wl_pos hb
  have h1 := bitLen_lt hd
  have h2 := bitLen_pos ht
  have h3 := Lib.bitLen_le (dg b (wl b - 1)) 32 (by decide) (by omega)
  refine ⟨32 - Lib.bitLen (dg b (wl b - 1)), by omega, by omega, ?_⟩
  obtain ⟨n, hn⟩ : ∃ n, wl b = n + 1 := ⟨wl b - 1, by omega⟩
  rw [hn, Nat.add_sub_cancel] at h1 h3 ht ⊢
  have hv : vl (dg b) (n + 1) = b := vl_dg_of_lt (by rw [← hn]; exact lt_bp_wl b)
  rw [vl_succ] at hv
  have h4 : vl (dg b) n < bp n := vl_lt fun i _ => dg_lt b i
  have h5 : (dg b n + 1) * bp n ≤ 2 ^ Lib.bitLen (dg b n) * bp n := Nat.mul_le_mul_right _ h1
  have h6 : b < 2 ^ Lib.bitLen (dg b n) * bp n := by rw [Nat.add_mul] at h5; omega
  have h7 : 2 ^ Lib.bitLen (dg b n) * bp n * 2 ^ (32 - Lib.bitLen (dg b n)) = bp (n + 1) := by
    rw [Nat.mul_right_comm, ← Nat.pow_add, show Lib.bitLen (dg b n) + (32 - Lib.bitLen (dg b n)) = 32 by omega, bp_succ]
  rw [← h7]
  exact Nat.mul_lt_mul_of_pos_right h6 (Nat.pow_pos (by decide))
theorem or_top {h l : Nat} (hh : h < 4294967296) (hl : l < 4294967296) : bits .or .u64 ((h : Int) * 4294967296) (l : Int) = ((h * 4294967296 + l : Nat) : Int) := by
  have e : (h : Int) * 4294967296 = ((h * 4294967296 : Nat) : Int) := by omega
  rw [e, u64_or_nat _ _ (by omega) (by omega)]
  congr 1
  have := Nat.two_pow_add_eq_or_of_lt (i := 32) (b := l) (by simpa using hl) h
  rw [Nat.mul_comm h]
  exact this.symm

/-- what the estimate of a digit rests on: the top words u0, u1, u2 of the window, v1, v2 of the divisor -/
structure Est (w v u0 u1 u2 v1 v2 q : Nat) : Prop where
  high : ∀ d r, d * v1 + r = u0 * 4294967296 + u1 → r * 4294967296 + u2 < d * v2 → q < d
  low : ∀ d r, d * v1 + r = u0 * 4294967296 + u1 → d ≤ 4294967295 → d * v2 ≤ r * 4294967296 + u2 → d ≤ q + 1
  start : q ≤ (u0 * 4294967296 + u1) / v1
  out : ∀ d r, d * v1 + r = u0 * 4294967296 + u1 → 4294967296 ≤ r → d ≤ 4294967295 ∧ d * v2 ≤ r * 4294967296 + u2
  q_le : q ≤ 4294967295
  v1_pos : 0 < v1
  u0_lt : u0 < 4294967296
  u1_lt : u1 < 4294967296
  u2_lt : u2 < 4294967296
  v1_lt : v1 < 4294967296
  v2_lt : v2 < 4294967296

theorem est {w v p : Nat} (hw : w < v * 4294967296) (hv : v < bp (p + 2)) (hlo : bp (p + 1) ≤ v) :
    Est w v (dg w (p + 2)) (dg w (p + 1)) (dg w p) (dg v (p + 1)) (dg v p) (w / v) := by
  have hP := bp_pos p
  have hw3 : w < bp (p + 3) := by rw [bp_succ (p + 2)]; omega
  have t3 := top3 hw3
  have t2 := top2 hv
  have a0 := dg_lt w (p + 2)
  have a1 := dg_lt w (p + 1)
  have a2 := dg_lt w p
  have b1 := dg_lt v (p + 1)
  have b2 := dg_lt v p
  have hv0 : 0 < v := by have := bp_pos (p + 1); omega
  have hq : w / v ≤ 4294967295 := by
    have := Nat.div_lt_of_lt_mul hw
    omega
  have hvp : 0 < dg v (p + 1) := by
    rcases Nat.eq_zero_or_pos (dg v (p + 1)) with e | e
    · rw [e] at t2
      have : v / bp p < 4294967296 := by omega
      have h1 := (Nat.div_lt_iff_lt_mul hP).1 this
      rw [bp_succ] at hlo
      omega
    · exact e
  generalize dg w (p + 2) = u0 at *
  generalize dg w (p + 1) = u1 at *
  generalize dg w p = u2 at *
  generalize dg v (p + 1) = v1 at *
  generalize dg v p = v2 at *
  have hlo' : 4294967296 * bp p ≤ v := by rw [bp_succ] at hlo; exact hlo
  have key : ∀ d r, d * v1 + r = u0 * 4294967296 + u1 → (d * (v / bp p) + (r * 4294967296 + u2) = w / bp p + d * v2) := by
    intro d r h
    rw [t2, t3, ← h]
    grind
  have hu0 : u0 ≤ v1 := by
    have h1 : w / bp p < v / bp p * 4294967296 + 4294967296 := by
      apply (Nat.div_lt_iff_lt_mul hP).2
      have h2 : v < (v / bp p + 1) * bp p := by
        have := Nat.div_add_mod v (bp p)
        have := Nat.mod_lt v hP
        have e : (v / bp p + 1) * bp p = bp p * (v / bp p) + bp p := by grind
        omega
      have e : (v / bp p * 4294967296 + 4294967296) * bp p = (v / bp p + 1) * bp p * 4294967296 := by grind
      rw [e]
      have h3 : v * 4294967296 ≤ (v / bp p + 1) * bp p * 4294967296 := Nat.mul_le_mul_right _ (Nat.le_of_lt h2)
      exact Nat.lt_of_lt_of_le hw h3
    rw [t2, t3] at h1
    omega
  refine ⟨fun d r h1 h2 => ?_, fun d r h1 h2 h3 => ?_, ?_, fun d r h1 h2 => ?_, hq, hvp, a0, a1, a2, b1, b2⟩
  · have := key d r h1
    exact guess_high hP (by omega)
  · have := key d r h1
    exact guess_low hP h2 hlo' (by omega)
  · rcases Nat.lt_or_ge ((u0 * 4294967296 + u1) / v1) (w / v) with hlt | hge
    · exfalso
      have h1 := Nat.div_add_mod (u0 * 4294967296 + u1) v1
      have h2 := Nat.mod_lt (u0 * 4294967296 + u1) hvp
      generalize (u0 * 4294967296 + u1) / v1 = d at *
      generalize (u0 * 4294967296 + u1) % v1 = r at *
      -- the digit d + 1 fails the test on the first words alone
      have h3 : (d + 1) * v1 = v1 * d + v1 := by grind
      have h4 : w / bp p < (d + 1) * (v / bp p) := by
        rw [t2, t3]
        have e : (d + 1) * (v1 * 4294967296 + v2) = (d + 1) * v1 * 4294967296 + (d + 1) * v2 := by grind
        rw [e, h3]
        omega
      have := guess_high hP h4
      omega
    · exact hge
  · have h3 : d * v1 < v1 * 4294967296 := by
      have : u0 * 4294967296 ≤ v1 * 4294967296 := Nat.mul_le_mul_right _ hu0
      omega
    rw [Nat.mul_comm d] at h3
    have h4 := Nat.lt_of_mul_lt_mul_left h3
    refine ⟨by omega, ?_⟩
    have : d * v2 ≤ 4294967295 * 4294967295 := Nat.mul_le_mul (by omega) (by omega)
    omega
theorem est_row {r v k n : Nat} (hn : 2 ≤ n) (hr : r < v * bp (k + 1)) (hv : v < bp n) (hlo : bp (n - 1) ≤ v) :
    Est (r / bp k) v (dg r (k + n)) (dg r (k + n - 1)) (dg r (k + n - 2)) (dg v (n - 1)) (dg v (n - 2)) (r / bp k / v) := by
  obtain ⟨p, rfl⟩ : ∃ p, n = p + 2 := ⟨n - 2, by omega⟩
  have h := est (window hr hv).1 hv hlo
  rw [← dg_shift, ← dg_shift, ← dg_shift] at h
  exact h
end Go.Proofs.Ytenpbnmmadbkdaa
