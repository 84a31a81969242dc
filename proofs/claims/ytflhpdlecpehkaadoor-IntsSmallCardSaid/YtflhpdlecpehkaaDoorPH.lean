/- A pack of texts: RefI, RefJ, RefM. No condition but those stated. -/
import Derived.Test.YtflhpdlecpehkaaDoorPG
import Derived.Test.YtflhpdlecpehkaaDoorPC
import Derived.Test.YtflhpdlecpehkaaDoorPD
import Derived.Test.YtflhpdlecpehkaaDoorPR
set_option linter.unusedVariables false
set_option linter.unusedSimpArgs false

/- gussetref01: OfWords, Pow, Bits. No condition but a bound on lengths. -/
namespace Go.Proofs.YtflhpdlecpehkaaDoor
open Go.RowKit
set_option linter.unusedSimpArgs false
set_option linter.unusedVariables false

theorem bp_le_tp (k : Nat) : bp k ≤ tp (3 * k) := by
  unfold bp tp
  rw [Nat.pow_mul]
  exact Nat.pow_le_pow_left (by decide) k
theorem tw_wl (n : Nat) : tw n ≤ 3 * wl n := tw_le.2 (Nat.lt_of_lt_of_le (lt_bp_wl n) (bp_le_tp _))
theorem tw_base : tw 4294967296 ≤ 3 := tw_le.2 (by decide)
/-- the words from j on -/
def upv (f : Nat → Nat) (k j : Nat) : Nat := vl (fun t => f (j + t)) (k - j)
theorem upv_all (f : Nat → Nat) (k : Nat) : upv f k 0 = vl f k := by
  unfold upv
  exact vl_congr fun i _ => by rw [Nat.zero_add]
theorem upv_none (f : Nat → Nat) (k : Nat) : upv f k k = 0 := by unfold upv; rw [Nat.sub_self]; rfl
theorem upv_step (f : Nat → Nat) {k j : Nat} (h : j < k) : upv f k j = upv f k (j + 1) * 4294967296 + f j := by
  unfold upv
  obtain ⟨m, hm⟩ : ∃ m, k - j = m + 1 := ⟨k - j - 1, by omega⟩
  rw [hm, vl_cons, show k - (j + 1) = m by omega, Nat.add_zero]
  have e : vl (fun i => f (j + (i + 1))) m = vl (fun t => f (j + 1 + t)) m := vl_congr fun i _ => by rw [show j + (i + 1) = j + 1 + i by omega]
  rw [e]
  omega
theorem upv_lt {f : Nat → Nat} {k : Nat} (hf : ∀ i, i < k → f i < 4294967296) (j : Nat) : wl (upv f k j) ≤ k := by
  refine Nat.le_trans (wl_le.2 (vl_lt (fun i hi => hf (j + i) (by omega)))) (by omega)
theorem Rn.nil (w : World) : Rn w (.slice none 0 0) 0 := by unfold Rn; rw [tw_zero]; exact Dr.nil _ _ _
/-- v is a row of k words f, wherever it lies -/
def Wa (w : World) (v : Value) (k : Nat) (f : Nat → Nat) : Prop :=
  (∃ ao c, v = .slice ao k c ∧ k = 0) ∨ ∃ b o c, v = .slice (some ⟨b, o, none⟩) k c ∧ b < w.heap.size ∧ ∀ i, i < k → w.cell? ⟨b, o + i, none⟩ = some (.int .u32 ((f i : Nat) : Int))
theorem Wa.gr {w w' : World} {v : Value} {k : Nat} {f : Nat → Nat} (h : Wa w v k f) (hg : Gr w w') : Wa w' v k f := by
  rcases h with h | ⟨b, o, c, rfl, hb, hc⟩
  · exact .inl h
  · exact .inr ⟨b, o, c, rfl, Nat.lt_of_lt_of_le hb hg.size, fun i hi => (Below.cell hg (p := ⟨b, o + i, none⟩) hb).trans (hc i hi)⟩
theorem Wa.slice {w : World} {v : Value} {k : Nat} {f : Nat → Nat} (h : Wa w v k f) : ∃ ao c, v = .slice ao k c := by
  rcases h with ⟨ao, c, rfl, _⟩ | ⟨b, o, c, rfl, _⟩
  · exact ⟨_, _, rfl⟩
  · exact ⟨_, _, rfl⟩

end Go.Proofs.YtflhpdlecpehkaaDoor


/- gussetref01: Pow, Bits. No condition but a bound on lengths. -/
namespace Go.Proofs.YtflhpdlecpehkaaDoor
open Go.RowKit
set_option linter.unusedSimpArgs false
set_option linter.unusedVariables false

theorem tw_pow (x : Nat) : ∀ n, tw (x ^ n) ≤ n * tw x + 1
  | 0 => by rw [Nat.pow_zero]; exact Nat.le_trans (tw_small (n := 1) (by decide)) (by omega)
  | n + 1 => by
    rw [Nat.pow_succ, Nat.succ_mul]
    have h1 := tw_mul (x ^ n) x
    have h2 := tw_pow x n
    omega
theorem nb_tw (n : Nat) : nb n ≤ 14 * tw n := by
  rw [nb_le]
  refine Nat.lt_of_lt_of_le (lt_tp_tw n) ?_
  unfold tp
  rw [Nat.pow_mul]
  exact Nat.pow_le_pow_left (by decide) _
theorem tw_two_pow (i k : Nat) (h : i ≤ 13 * k) : tw (2 ^ i) ≤ k + 1 := by
  refine tw_le.2 ?_
  have h1 : 2 ^ i ≤ 2 ^ (13 * k) := Nat.pow_le_pow_right (by decide) h
  have h2 : 2 ^ (13 * k) ≤ tp k := by
    unfold tp
    rw [Nat.pow_mul]
    exact Nat.pow_le_pow_left (by decide) _
  have h3 := tp_succ k
  have h4 : 0 < tp k := by unfold tp; exact Nat.pow_pos (by decide)
  omega
end Go.Proofs.YtflhpdlecpehkaaDoor


/- gussetref01.Sqrt. No condition but a bound on lengths. -/
namespace Go.Proofs.YtflhpdlecpehkaaDoor
open Go.RowKit
set_option linter.unusedSimpArgs false
set_option linter.unusedVariables false

/-- the root has half the digits -/
theorem rt_tp {a n : Nat} (h : a < tp (2 * n)) : rt a < tp n := by
  apply sq_lt
  refine Nat.lt_of_le_of_lt (rt_le a) ?_
  rw [← tp_add, ← Nat.two_mul]
  exact h
/-- the digits above a place, one digit put at it -/
theorem root_cand (s n j d : Nat) (hj : j < n) : tv (fun t => if t = j then d else if t < j + 1 then 0 else tg s t) n = tv (fun t => if t < j + 1 then 0 else tg s t) n + d * tp j := by
  have h := tv_set (fun t => if t < j + 1 then 0 else tg s t) d hj
  have e : (if j < j + 1 then 0 else tg s j) = 0 := if_pos (Nat.lt_succ_self j)
  simp only [e, Nat.zero_mul, Nat.add_zero] at h
  exact h
theorem root_high (s n j : Nat) (hs : s < tp n) (hj : j ≤ n) : tv (fun t => if t < j then 0 else tg s t) n = s / tp j * tp j := by
  obtain ⟨k, rfl⟩ : ∃ k, n = j + k := ⟨n - j, by omega⟩
  rw [tv_split, tv_congr (g := fun _ => 0) (fun i hi => if_pos hi), tv_tail (m := 0) (Nat.zero_le _) (fun _ _ _ => rfl), tv_zero, Nat.zero_add, Nat.mul_comm]
  congr 1
  rw [tv_congr (g := tg (s / tp j)) (fun i hi => by rw [if_neg (by omega), tg_shift])]
  apply tv_tg_of_lt
  rw [Nat.div_lt_iff_lt_mul (tp_pos j), Nat.mul_comm, ← tp_add]
  exact hs
/-- the comparison with the root -/
theorem root_le {a r n j d : Nat} (hr : rt a = r) (hs : r < tp n) (hj : j < n) :
    (r / tp (j + 1) * tp (j + 1) + d * tp j) * (r / tp (j + 1) * tp (j + 1) + d * tp j) ≤ a ↔ d ≤ tg r j := by
  obtain ⟨X, hX⟩ : ∃ X, r / tp (j + 1) * tp (j + 1) + d * tp j = X := ⟨_, rfl⟩
  have h1 : X * X ≤ a ↔ X ≤ r := by
    constructor
    · intro h
      have h2 := rt_lt a
      rw [hr] at h2
      have := sq_lt (Nat.lt_of_le_of_lt h h2)
      omega
    · intro h
      have h2 := rt_le a
      rw [hr] at h2
      exact Nat.le_trans (Nat.mul_le_mul h h) h2
  rw [hX, h1, ← hX]
  have h2 : 10000 * (r / tp (j + 1)) + tg r j = r / tp j := by rw [← div_step, ← tg_step]; omega
  have h3 : r / tp (j + 1) * tp (j + 1) + d * tp j = (10000 * (r / tp (j + 1)) + d) * tp j := by rw [tp_succ]; grind
  rw [h3, ← Nat.le_div_iff_mul_le (tp_pos j)]
  omega
theorem addr_add_none (b t : Nat) : (⟨b, 0, none⟩ : Addr).add t = ⟨b, t, none⟩ := by
  unfold Addr.add
  split
  · next h => subst h; rfl
  · simp
/-- the state at the head of the loop: the digits from j on are found -/
def RootAt (w : World) (r n g j : Nat) (wr : World) : Prop :=
  Dr wr w.heap.size (.slice (some ⟨g, 0, none⟩) n n) n (fun t => if t < j then 0 else tg r t) ∧ Below w.heap.size w wr ∧ g < wr.heap.size
theorem RootAt.next {w wr : World} {r n g j d : Nat} (hgw : w.heap.size ≤ g) (h : RootAt w r n g (j + 1) wr) (hd : tg r j = d) (hj : j < n) : RootAt w r n g j (wr.setCell ⟨g, j, none⟩ (.int .i64 ((d : Nat) : Int))) := by
  refine ⟨(h.1.store j d hj).congr fun i hi => ?_, h.2.1.setCell hgw _, by simpa using h.2.2⟩
  by_cases e : i = j
  · subst e; simp [hd]
  · by_cases e2 : i < j
    · simp [e, e2, show i < j + 1 by omega]
    · simp [e, e2, show ¬ i < j + 1 by omega]
end Go.Proofs.YtflhpdlecpehkaaDoor
