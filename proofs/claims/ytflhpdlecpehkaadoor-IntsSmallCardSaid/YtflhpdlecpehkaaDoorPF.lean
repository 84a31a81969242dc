/- A pack of texts: Ten, TenRow, RefA, RefB, RefC, RefD, RefE. No condition but those stated. -/
import Derived.Test.YtflhpdlecpehkaaDoorPA
import Derived.Test.YtflhpdlecpehkaaDoorPC
set_option linter.unusedVariables false
set_option linter.unusedSimpArgs false

/- Numbers in digits to the base 10000: values of rows of digits, the digits of a number, how many digits a number has. No condition; nothing here speaks of the program. -/
namespace Go.Proofs.YtflhpdlecpehkaaDoor

/-- 10000 to the n -/
def tp (n : Nat) : Nat := 10000 ^ n
theorem tp_zero : tp 0 = 1 := rfl
theorem tp_succ (n : Nat) : tp (n + 1) = 10000 * tp n := by unfold tp; rw [Nat.pow_succ, Nat.mul_comm]
theorem tp_add (m n : Nat) : tp (m + n) = tp m * tp n := by unfold tp; rw [Nat.pow_add]
theorem tp_pos (n : Nat) : 0 < tp n := by unfold tp; exact Nat.pow_pos (by decide)
theorem tp_le {m n : Nat} (h : m ≤ n) : tp m ≤ tp n := by unfold tp; exact Nat.pow_le_pow_right (by decide) h
theorem tp_lt {m n : Nat} (h : m < n) : tp m < tp n := by unfold tp; exact Nat.pow_lt_pow_right (by decide) h
theorem tp_one : tp 1 = 10000 := rfl
theorem tp_two : tp 2 = 100000000 := by decide

/-- the value of the first n digits of f, least significant first -/
def tv (f : Nat → Nat) : Nat → Nat
  | 0 => 0
  | n + 1 => tv f n + f n * tp n

theorem tv_zero (f : Nat → Nat) : tv f 0 = 0 := rfl
theorem tv_succ (f : Nat → Nat) (n : Nat) : tv f (n + 1) = tv f n + f n * tp n := rfl

theorem tv_congr {f g : Nat → Nat} {n : Nat} (h : ∀ i, i < n → f i = g i) : tv f n = tv g n := by
  induction n with
  | zero => rfl
  | succ n ih => rw [tv_succ, tv_succ, ih (fun i hi => h i (by omega)), h n (by omega)]

theorem tv_lt {f : Nat → Nat} {n : Nat} (h : ∀ i, i < n → f i < 10000) : tv f n < tp n := by
  induction n with
  | zero => simp [tv, tp]
  | succ n ih =>
    have h1 := ih (fun i hi => h i (by omega))
    have h2 := h n (by omega)
    have h3 : f n * tp n ≤ 9999 * tp n := Nat.mul_le_mul_right _ (by omega)
    rw [tv_succ, tp_succ]
    omega

theorem tv_split (f : Nat → Nat) (m n : Nat) : tv f (m + n) = tv f m + tp m * tv (fun i => f (m + i)) n := by
  induction n with
  | zero => simp [tv]
  | succ n ih =>
    rw [← Nat.add_assoc, tv_succ, ih, tv_succ, Nat.mul_add, tp_add, Nat.add_assoc]
    congr 2
    rw [← Nat.mul_assoc, ← Nat.mul_assoc, Nat.mul_comm (f (m + n))]

theorem tv_cons (f : Nat → Nat) (n : Nat) : tv f (n + 1) = f 0 + 10000 * tv (fun i => f (i + 1)) n := by
  rw [Nat.add_comm n 1, tv_split]
  simp [tv, tp_one, tp_zero, Nat.add_comm]

theorem tv_tail {f : Nat → Nat} {m n : Nat} (hmn : m ≤ n) (h : ∀ i, m ≤ i → i < n → f i = 0) : tv f n = tv f m := by
  induction n with
  | zero => obtain rfl : m = 0 := by omega
            rfl
  | succ n ih =>
    by_cases hm : m = n + 1
    · rw [hm]
    · rw [tv_succ, ih (by omega) (fun i h1 h2 => h i h1 (by omega)), h n (by omega) (by omega)]; simp

theorem tv_mono {f : Nat → Nat} {m n : Nat} (h : m ≤ n) : tv f m ≤ tv f n := by
  induction n with
  | zero => obtain rfl : m = 0 := by omega
            exact Nat.le_refl _
  | succ n ih =>
    by_cases hm : m = n + 1
    · rw [hm]; exact Nat.le_refl _
    · have := ih (by omega); rw [tv_succ]; omega

theorem tv_top {f : Nat → Nat} {n : Nat} (h : f n ≠ 0) : tp n ≤ tv f (n + 1) := by
  rw [tv_succ]
  have : 1 * tp n ≤ f n * tp n := Nat.mul_le_mul_right _ (by omega)
  omega

/-- the first digits agree above i, and differ at i -/
theorem tv_less {f g : Nat → Nat} {n i : Nat} (hi : i < n) (hf : ∀ j, j < n → f j < 10000) (he : ∀ j, i < j → j < n → f j = g j) (hl : f i < g i) : tv f n < tv g n := by
  have h1 : tv f n = tv f (i + 1) + tp (i + 1) * tv (fun j => f (i + 1 + j)) (n - (i + 1)) := by
    rw [← tv_split]; congr 1; omega
  have h2 : tv g n = tv g (i + 1) + tp (i + 1) * tv (fun j => g (i + 1 + j)) (n - (i + 1)) := by
    rw [← tv_split]; congr 1; omega
  have h3 : tv (fun j => f (i + 1 + j)) (n - (i + 1)) = tv (fun j => g (i + 1 + j)) (n - (i + 1)) := tv_congr (fun j hj => he _ (by omega) (by omega))
  have h4 : tv f (i + 1) < tv g (i + 1) := by
    rw [tv_succ, tv_succ]
    have h5 := tv_lt (f := f) (n := i) (fun j hj => hf j (by omega))
    have h6 : (f i + 1) * tp i ≤ g i * tp i := Nat.mul_le_mul_right _ (by omega)
    rw [Nat.add_mul] at h6
    omega
  rw [h1, h2, h3]; omega

/-- digit i of n -/
def tg (n i : Nat) : Nat := n / tp i % 10000
theorem tg_lt (n i : Nat) : tg n i < 10000 := Nat.mod_lt _ (by decide)
theorem tg_zero (i : Nat) : tg 0 i = 0 := by simp [tg]

theorem tv_tg (n k : Nat) : tv (tg n) k = n % tp k := by
  induction k with
  | zero => simp [tv, tp, Nat.mod_one]
  | succ k ih =>
    rw [tv_succ, ih, tg, tp_succ, Nat.mul_comm 10000, Nat.mod_mul, Nat.mul_comm (tp k)]

theorem tv_tg_of_lt {n k : Nat} (h : n < tp k) : tv (tg n) k = n := by rw [tv_tg, Nat.mod_eq_of_lt h]

theorem tg_tv {f : Nat → Nat} {n : Nat} (hf : ∀ j, j < n → f j < 10000) {i : Nat} (hi : i < n) : tg (tv f n) i = f i := by
  have h1 : tv f n = tv f i + tp i * tv (fun j => f (i + j)) (n - i) := by
    rw [← tv_split]; congr 1; omega
  have h2 : tv f i < tp i := tv_lt (fun j hj => hf j (by omega))
  rw [tg, h1, Nat.add_mul_div_left _ _ (tp_pos i), Nat.div_eq_of_lt h2, Nat.zero_add, show n - i = (n - i - 1) + 1 by omega, tv_cons]
  rw [Nat.add_mul_mod_self_left]
  exact Nat.mod_eq_of_lt (hf _ hi)

theorem tv_inj {f g : Nat → Nat} {n : Nat} (hf : ∀ j, j < n → f j < 10000) (hg : ∀ j, j < n → g j < 10000) (h : tv f n = tv g n) {i : Nat} (hi : i < n) : f i = g i := by
  rw [← tg_tv hf hi, ← tg_tv hg hi, h]

/-- how many digits n has -/
def tw (n : Nat) : Nat := if n = 0 then 0 else tw (n / 10000) + 1
decreasing_by omega
theorem tw_le {n k : Nat} : tw n ≤ k ↔ n < tp k := by
  induction n using Nat.strongRecOn generalizing k with
  | ind n ih =>
    rw [tw]
    split
    · next h => subst h; simp [tp_pos]
    · next h =>
      cases k with
      | zero => rw [tp_zero]; omega
      | succ k =>
        rw [Nat.add_le_add_iff_right, ih (n / 10000) (by omega), tp_succ]
        omega
theorem lt_tw {n k : Nat} : k < tw n ↔ tp k ≤ n := by
  have := @tw_le n k
  omega
theorem lt_tp_tw (n : Nat) : n < tp (tw n) := tw_le.1 (Nat.le_refl _)
theorem tw_zero : tw 0 = 0 := by rw [tw]; rfl
theorem tw_pos {n : Nat} (h : 0 < n) : 0 < tw n := lt_tw.2 (by rw [tp_zero]; exact h)
theorem tw_eq_zero {n : Nat} : tw n = 0 ↔ n = 0 := by
  have := @tw_le n 0
  rw [tp_zero] at this
  omega
theorem tw_mono {m n : Nat} (h : m ≤ n) : tw m ≤ tw n := tw_le.2 (Nat.lt_of_le_of_lt h (lt_tp_tw n))
theorem tw_of {n k : Nat} (h1 : tp k ≤ n) (h2 : n < tp (k + 1)) : tw n = k + 1 := by
  have a := tw_le.2 h2
  have b := lt_tw.2 h1
  omega
theorem tw_add (a b : Nat) : tw (a + b) ≤ max (tw a) (tw b) + 1 := by
  apply tw_le.2
  rw [tp_succ]
  have h1 := Nat.lt_of_lt_of_le (lt_tp_tw a) (tp_le (Nat.le_max_left (tw a) (tw b)))
  have h2 := Nat.lt_of_lt_of_le (lt_tp_tw b) (tp_le (Nat.le_max_right (tw a) (tw b)))
  omega
theorem tw_mul (a b : Nat) : tw (a * b) ≤ tw a + tw b := by
  apply tw_le.2
  rw [tp_add]
  exact Nat.mul_lt_mul_of_lt_of_le (lt_tp_tw a) (Nat.le_of_lt (lt_tp_tw b)) (tp_pos _)
theorem tw_sub (a b : Nat) : tw (a - b) ≤ tw a := tw_mono (Nat.sub_le _ _)
theorem tw_div (a b : Nat) : tw (a / b) ≤ tw a := tw_mono (Nat.div_le_self _ _)
theorem tw_mod (a b : Nat) : tw (a % b) ≤ tw a := tw_mono (Nat.mod_le _ _)
theorem tw_mod_lt (a : Nat) {b : Nat} (h : 0 < b) : tw (a % b) ≤ tw b := tw_mono (Nat.le_of_lt (Nat.mod_lt _ h))
theorem tw_gcd_left (a b : Nat) (h : 0 < a) : tw (Nat.gcd a b) ≤ tw a := tw_mono (Nat.le_of_dvd h (Nat.gcd_dvd_left _ _))
theorem tw_gcd_right (a b : Nat) (h : 0 < b) : tw (Nat.gcd a b) ≤ tw b := tw_mono (Nat.le_of_dvd h (Nat.gcd_dvd_right _ _))
theorem tw_gcd (a b : Nat) : tw (Nat.gcd a b) ≤ max (tw a) (tw b) := by
  by_cases h : a = 0
  · subst h; rw [Nat.gcd_zero_left]; omega
  · have := tw_gcd_left a b (by omega); omega
theorem tw_small {n : Nat} (h : n < 10000) : tw n ≤ 1 := tw_le.2 (by rw [tp_one]; exact h)
theorem tw_le_two {n : Nat} : tw n ≤ 2 ↔ n < 100000000 := by rw [tw_le, tp_two]
theorem tw_succ (a : Nat) : tw (a + 1) ≤ tw a + 1 := by
  have := tw_add a 1
  have h1 : tw 1 ≤ 1 := tw_small (by decide)
  by_cases h : a = 0
  · subst h; have : tw (0 + 1) ≤ 1 := tw_small (by decide); omega
  · have := tw_pos (n := a) (by omega); omega

/-- the top digit of a row is not 0: the row's value has as many digits as the row -/
theorem tw_tv {f : Nat → Nat} {n : Nat} (hf : ∀ j, j < n → f j < 10000) (ht : 0 < n → f (n - 1) ≠ 0) : tw (tv f n) = n := by
  cases n with
  | zero => exact tw_zero
  | succ n => exact tw_of (tv_top (ht (by omega))) (tv_lt hf)

theorem tg_top {n : Nat} (h : 0 < n) : tg n (tw n - 1) ≠ 0 := by
  have hp := tw_pos h
  have h1 : tp (tw n - 1) ≤ n := lt_tw.1 (by omega)
  have h2 := lt_tp_tw n
  rw [show tw n = (tw n - 1) + 1 by omega, tp_succ, Nat.mul_comm] at h2
  have h3 : n / tp (tw n - 1) < 10000 := Nat.div_lt_of_lt_mul (by simpa using h2)
  have h4 : 0 < n / tp (tw n - 1) := Nat.div_pos h1 (tp_pos _)
  rw [tg, Nat.mod_eq_of_lt h3]
  omega

/-- digits beyond the number's are 0 -/
theorem tg_high {n k i : Nat} (h : n < tp k) (hi : k ≤ i) : tg n i = 0 := by
  rw [tg, Nat.div_eq_of_lt (Nat.lt_of_lt_of_le h (tp_le hi))]

end Go.Proofs.YtflhpdlecpehkaaDoor


/- Rows of digits in memory, and appending to one's own. No condition. -/
namespace Go.Proofs.YtflhpdlecpehkaaDoor
open Go.RowKit

theorem tv_tl (f : Nat → Nat) (n : Nat) : tv f (tl f n) = tv f n := by
  induction n with
  | zero => rfl
  | succ n ih =>
    unfold tl
    split
    · next e => rw [ih, tv_succ, e]; simp
    · rfl
theorem tl_tw {f : Nat → Nat} {n : Nat} (hf : ∀ i, i < n → f i < 10000) : tl f n = tw (tv f n) := by
  rw [← tv_tl]
  have := tl_le f n
  exact (tw_tv (fun j hj => hf j (by omega)) tl_top).symm
/-- digits as values -/
def dvs (f : Nat → Nat) (n : Nat) : List Value := (List.range n).map fun i => .int .i64 ((f i : Nat) : Int)
theorem dvs_length (f : Nat → Nat) (n : Nat) : (dvs f n).length = n := by simp [dvs]
theorem dvs_get (f : Nat → Nat) {n i : Nat} (h : i < n) : (dvs f n)[i]? = some (.int .i64 ((f i : Nat) : Int)) := by simp [dvs, h]
theorem dvs_congr {f g : Nat → Nat} {n : Nat} (h : ∀ i, i < n → f i = g i) : dvs f n = dvs g n := by
  apply List.map_congr_left
  intro i hi
  rw [h i (by simpa using hi)]
theorem dvs_snoc (f : Nat → Nat) (n d : Nat) : dvs f n ++ [.int .i64 ((d : Nat) : Int)] = dvs (fun i => if i = n then d else f i) (n + 1) := by
  unfold dvs
  rw [List.range_succ, List.map_append]
  congr 1
  · apply List.map_congr_left
    intro i hi
    have : i < n := by simpa using hi
    simp [Nat.ne_of_lt this]
  · simp
theorem dvs_take (f : Nat → Nat) {m n : Nat} (h : m ≤ n) : (dvs f n).take m = dvs f m := by
  unfold dvs
  rw [← List.map_take, List.take_range, Nat.min_eq_left h]
/-- v owns n digits f, in blocks from B on -/
def Dr (w : World) (B : Nat) (v : Value) (n : Nat) (f : Nat → Nat) : Prop := w.ownsRow B 3 1 v n (dvs f n)
/-- v is the number n -/
def Rn (w : World) (v : Value) (n : Nat) : Prop := Dr w 0 v (tw n) (tg n)

section
variable {w w' : World} {B n : Nat} {v : Value} {f g : Nat → Nat}
theorem Dr.cases (h : Dr w B v n f) : (v = .slice none 0 0 ∧ n = 0) ∨ ∃ b c, v = .slice (some ⟨b, 0, none⟩) n c ∧ B ≤ b ∧ b < w.heap.size ∧ n ≤ c ∧ c ≤ 9223372036854775807 ∧ (∀ i, i < n → w.cell? ⟨b, i, none⟩ = some (.int .i64 ((f i : Nat) : Int))) ∧ (∀ i, w.frozen? ⟨b, i, none⟩ = false) := by
  have h0 := h
  rcases h.2 with hn | ⟨b, c, cur, rfl, hb, hg, hc, hm, hs, ht⟩
  · exact .inl hn
  · refine .inr ⟨b, c, rfl, hb, (Array.getElem?_eq_some_iff.1 hg).1, hc, hm, fun i hi => ?_, fun i => h0.frozenAt i⟩
    rw [World.ownsRow.cellAt h0 i (by omega), dvs_get f hi]
theorem Dr.slice (h : Dr w B v n f) : ∃ ao c, v = .slice ao n c ∧ n ≤ c ∧ c ≤ 9223372036854775807 := by
  rcases h.cases with ⟨rfl, rfl⟩ | ⟨b, c, rfl, _, _, h1, h2, _⟩
  · exact ⟨none, 0, rfl, Nat.le_refl _, by decide⟩
  · exact ⟨_, _, rfl, h1, h2⟩
theorem Dr.congr (h : Dr w B v n f) (e : ∀ i, i < n → f i = g i) : Dr w B v n g := by unfold Dr at *; rw [← dvs_congr e]; exact h
theorem Dr.gr (h : Dr w B v n f) (hg : Gr w w') : Dr w' B v n f := by
  refine ⟨h.1, ?_⟩
  rcases h.2 with hn | ⟨b, c, cur, rfl, hb, hh, rest⟩
  · exact .inl hn
  · exact .inr ⟨b, c, cur, rfl, hb, hg.block hh, rest⟩
theorem Dr.mono {C : Nat} (h : Dr w B v n f) (hC : C ≤ B) : Dr w C v n f := by
  refine ⟨h.1, ?_⟩
  rcases h.2 with hn | ⟨b, c, cur, rfl, hb, rest⟩
  · exact .inl hn
  · exact .inr ⟨b, c, cur, rfl, Nat.le_trans hC hb, rest⟩
theorem Dr.below {C : Nat} (h : Dr w 0 v n f) (hb : Below C w w') (hlt : ∀ k, v.ownBlock = some k → k < C) : Dr w' 0 v n f := by
  refine ⟨h.1, ?_⟩
  rcases h.2 with hn | ⟨b, c, cur, rfl, hb0, hh, rest⟩
  · exact .inl hn
  · exact .inr ⟨b, c, cur, rfl, hb0, (hb.block b (hlt b rfl)).trans hh, rest⟩
theorem Dr.drew (h : Dr w B v n f) : Dr w.drew B v n f := h
theorem Dr.drewN (h : Dr w B v n f) (k : Nat) : Dr (w.drewN k) B v n f := h
theorem Dr.alloc (h : Dr w B v n f) (o : Obj) : Dr (w.alloc o) B v n f := h.gr (Gr.alloc w o)
theorem Dr.nil (w : World) (B : Nat) (f : Nat → Nat) : Dr w B (.slice none 0 0) 0 f := World.ownsRow_nil _ _ _ _
theorem Dr.take {m : Nat} {ao : Option Addr} {c : Nat} (h : Dr w B (.slice ao n c) n f) (hm : m ≤ n) : Dr w B (.slice ao m c) m f := by
  refine ⟨by simp [dvs_length], ?_⟩
  rcases h.2 with ⟨e, rfl⟩ | ⟨b, c', cur, e, hb, hh, h1, h2, h3, h4⟩
  · obtain rfl : m = 0 := by omega
    exact .inl ⟨e, rfl⟩
  · injection e with e1 e2 e3
    subst e1 e3
    refine .inr ⟨b, c, cur, rfl, hb, hh, Nat.le_trans hm h1, h2, h3, ?_⟩
    have e := congrArg (List.take (m * 1)) h4
    rw [List.take_take, Nat.min_eq_left (by omega)] at e
    rw [e, Nat.mul_one, dvs_take f hm]
theorem Dr.snoc {d : Nat} (h : w.ownsRow B 3 1 v (n + 1) (dvs f n ++ [.int .i64 ((d : Nat) : Int)])) : Dr w B v (n + 1) (fun i => if i = n then d else f i) := by
  unfold Dr
  rw [← dvs_snoc]
  exact h
theorem Dr.own (h : Dr w B v n f) : ∀ k, v.ownBlock = some k → B ≤ k ∧ k < w.heap.size := World.ownsRow.lt h
/-- a row without leading zeros is a number -/
theorem Rn.of (h : Dr w B v (tl f n) f) (hf : ∀ i, i < n → f i < 10000) : Rn w v (tv f n) := by
  have e := tl_tw hf
  have hle := tl_le f n
  unfold Rn
  rw [← e]
  refine (h.mono (Nat.zero_le _)).congr fun i hi => ?_
  rw [← tv_tl, tg_tv (fun j hj => hf j (by omega)) hi]
theorem Rn.gr {k : Nat} (h : Rn w v k) (hg : Gr w w') : Rn w' v k := Dr.gr h hg
end
theorem new_cell (W : World) (x : Value) (T : TypeId) : ∀ j u, [x][j]? = some u → (W.alloc (.cells #[x] T)).cell? ((⟨W.heap.size, 0, none⟩ : Addr).add j) = some u := by
  intro j u hj
  match j, hj with
  | 0, hj => simp at hj; subst hj; simp [Addr.add, go_sem]
theorem new_one (k : IntKind) (n : Int) : ∀ u ∈ [Value.int k n], u.oneCell' = true := by intro u hu; simp at hu; subst hu; rfl
theorem info_int : (Tryd.prog.info? 3).map (fun i => (i.zero, i.size, i.bytes)) = some (some (.int .i64 0), 1, 8) := by kernel_rfl
end Go.Proofs.YtflhpdlecpehkaaDoor


/- gussetref01: trim, at, Of. No condition but a bound on lengths. -/
namespace Go.Proofs.YtflhpdlecpehkaaDoor
open Go.RowKit
set_option linter.unusedSimpArgs false
set_option linter.unusedVariables false

/-- one digit appended -/
theorem push_step {w0 wr w1 : World} {v v' : Value} {k d : Nat} {f : Nat → Nat} {o : Obj} (hb : Below w0.heap.size w0 wr) (ho : Dr wr w0.heap.size v k f)
    (hown : w1.ownsRow w0.heap.size 3 1 v' (k + 1) (dvs f k ++ [.int .i64 ((d : Nat) : Int)])) (hg : (wr.alloc o).grownBy w1 v.ownBlock) :
    Below w0.heap.size w0 w1 ∧ Dr w1 w0.heap.size v' (k + 1) (fun i => if i = k then d else f i) :=
  ⟨(hb.alloc hb.size o).grown hg (Nat.le_trans hb.size (by simp)) (fun j hj => (ho.own j hj).1), Dr.snoc hown⟩

theorem trim_any (v : Value) (B n : Nat) (f : Nat → Nat) (w : World) (h : Dr w B v n f) :
    Calls Tryd.prog 54 #[v] w fun e w' => (∃ v', e = .returned v' ∧ Dr w B v' (tl f n) f) ∧ w = w' := by
  rcases h.cases with ⟨rfl, rfl⟩ | ⟨b, c, rfl, _, _, hnc, hc, hcell, _⟩
  · have HD := Lib.hid h
    clear h
    go_enter Tryd.func54, Tryd.ntmps54
    go_wp2
    go_loop [0] (fun l => l = .slice none 0 0) (fun l => lenOf l)
    case atStart => rfl
    case round =>
      obtain rfl := hrel
      go_wp2
      go_ret
      exact ⟨⟨_, rfl, HD.out⟩, rfl⟩
  · have HD := Lib.hid h
    clear h
    go_enter Tryd.func54, Tryd.ntmps54
    go_wp2
    go_loop [0] (fun l => ∃ m : Nat, m ≤ n ∧ l = .slice (some ⟨b, 0, none⟩) m c ∧ Hid (tl f m = tl f n)) (fun l => lenOf l)
    case atStart => exact ⟨n, Nat.le_refl _, rfl, Lib.hid rfl⟩
    case round =>
      obtain ⟨m, hm, rfl, HT⟩ := hrel
      rcases m with _ | m
      · go_wp2
        go_ret
        exact ⟨⟨_, rfl, by rw [← HT.out]; exact HD.out.take (Nat.zero_le _)⟩, rfl⟩
      · have h1 := hcell m (by omega)
        clear hcell
        by_cases h0 : f m = 0
        · have h2 : (((f m : Nat) : Int) == 0) = true := by simp [h0]
          have H0 := Lib.hid h0
          clear h0
          go_wp2
          go_round
          case rel => exact ⟨m, by omega, rfl, Lib.hid (by rw [← HT.out, tl_zero H0.out])⟩
          case measure => simp [lenOf]
        · have h2 : (((f m : Nat) : Int) == 0) = false := by simpa using h0
          have H0 := Lib.hid h0
          clear h0
          go_wp2
          go_ret
          exact ⟨⟨_, rfl, by rw [← HT.out, tl_keep H0.out]; exact HD.out.take hm⟩, rfl⟩

theorem tg_step (N k : Nat) : N / tp k % 10000 = tg N k := rfl
theorem div_step (N k : Nat) : N / tp k / 10000 = N / tp (k + 1) := by rw [Nat.div_div_eq_div_mul, tp_succ, Nat.mul_comm]
end Go.Proofs.YtflhpdlecpehkaaDoor


/- gussetref01.Add. No condition but a bound on lengths. -/
namespace Go.Proofs.YtflhpdlecpehkaaDoor
open Go.RowKit
set_option linter.unusedSimpArgs false
set_option linter.unusedVariables false

/-- the carry of an addition -/
def rac (F G : Nat → Nat) : Nat → Nat
  | 0 => 0
  | k + 1 => (F k + G k + rac F G k) / 10000
/-- its digits -/
def rad (F G : Nat → Nat) (k : Nat) : Nat := (F k + G k + rac F G k) % 10000
theorem rac_succ (F G : Nat → Nat) (k : Nat) : rac F G (k + 1) = (F k + G k + rac F G k) / 10000 := rfl
theorem rac_le {F G : Nat → Nat} (hF : ∀ i, F i < 10000) (hG : ∀ i, G i < 10000) (k : Nat) : rac F G k ≤ 1 := by
  induction k with
  | zero => exact Nat.zero_le _
  | succ k ih => have := hF k; have := hG k; rw [rac_succ]; omega
theorem rad_inv (F G : Nat → Nat) (k : Nat) : tv (rad F G) k + rac F G k * tp k = tv F k + tv G k := by
  induction k with
  | zero => simp [tv, rac]
  | succ k ih =>
    rw [tv_succ, tv_succ, tv_succ, rac_succ, tp_succ]
    have e : rad F G k + 10000 * ((F k + G k + rac F G k) / 10000) = F k + G k + rac F G k := Nat.mod_add_div _ _
    generalize (F k + G k + rac F G k) / 10000 = q at *
    have e2 : (rad F G k + 10000 * q) * tp k = (F k + G k + rac F G k) * tp k := by rw [e]
    have e3 : q * (10000 * tp k) = 10000 * q * tp k := by rw [← Nat.mul_assoc, Nat.mul_comm q]
    rw [e3]
    simp only [Nat.add_mul] at e2
    omega
theorem rad_lt (F G : Nat → Nat) (k : Nat) : rad F G k < 10000 := Nat.mod_lt _ (by decide)
end Go.Proofs.YtflhpdlecpehkaaDoor


/- gussetref01.Cmp, leading. No condition but a bound on lengths. -/
namespace Go.Proofs.YtflhpdlecpehkaaDoor
open Go.RowKit
set_option linter.unusedSimpArgs false
set_option linter.unusedVariables false

theorem tw_lt {x y : Nat} (h : tw x < tw y) : x < y := Nat.lt_of_lt_of_le (lt_tp_tw x) (lt_tw.1 h)
/-- the digits from a place on -/
theorem lead_step (x k : Nat) : 10000 * (x / tp (k + 1)) + tg x k = x / tp k := by
  rw [← div_step, ← tg_step]
  omega
end Go.Proofs.YtflhpdlecpehkaaDoor


/- gussetref01.Sub. No condition but a bound on lengths. -/
namespace Go.Proofs.YtflhpdlecpehkaaDoor
open Go.RowKit
set_option linter.unusedSimpArgs false
set_option linter.unusedVariables false

/-- what a subtraction lends -/
def rlb (F G : Nat → Nat) : Nat → Nat
  | 0 => 0
  | k + 1 => if F k < G k + rlb F G k then 1 else 0
/-- its digits -/
def rld (F G : Nat → Nat) (k : Nat) : Nat := F k + 10000 * rlb F G (k + 1) - (G k + rlb F G k)
theorem rlb_succ (F G : Nat → Nat) (k : Nat) : rlb F G (k + 1) = if F k < G k + rlb F G k then 1 else 0 := rfl
theorem rlb_le (F G : Nat → Nat) (k : Nat) : rlb F G k ≤ 1 := by
  cases k with
  | zero => exact Nat.zero_le _
  | succ k => rw [rlb_succ]; split <;> omega
theorem rld_eq {F G : Nat → Nat} (hG : ∀ i, G i < 10000) (k : Nat) : rld F G k + (G k + rlb F G k) = F k + 10000 * rlb F G (k + 1) := by
  unfold rld
  have h1 := hG k
  have h2 := rlb_le F G k
  rw [rlb_succ]
  split <;> omega
theorem rld_lt {F G : Nat → Nat} (hF : ∀ i, F i < 10000) (hG : ∀ i, G i < 10000) (k : Nat) : rld F G k < 10000 := by
  have h := rld_eq (F := F) hG k
  have h0 := hF k
  rw [rlb_succ] at h
  split at h <;> omega
theorem rld_inv {F G : Nat → Nat} (hG : ∀ i, G i < 10000) (k : Nat) : tv F k + rlb F G k * tp k = tv G k + tv (rld F G) k := by
  induction k with
  | zero => simp [tv, rlb]
  | succ k ih =>
    rw [tv_succ, tv_succ, tv_succ, tp_succ]
    have e := rld_eq (F := F) hG k
    generalize rlb F G (k + 1) = q at *
    have e2 : (rld F G k + (G k + rlb F G k)) * tp k = (F k + 10000 * q) * tp k := by rw [e]
    have e3 : q * (10000 * tp k) = 10000 * q * tp k := by rw [← Nat.mul_assoc, Nat.mul_comm q]
    rw [e3]
    simp only [Nat.add_mul] at e2
    omega
end Go.Proofs.YtflhpdlecpehkaaDoor


/- gussetref01.Mul. No condition but a bound on lengths. -/
namespace Go.Proofs.YtflhpdlecpehkaaDoor
open Go.RowKit
set_option linter.unusedSimpArgs false
set_option linter.unusedVariables false

theorem wrap_in {z : Int} (h0 : -9223372036854775808 ≤ z) (h1 : z ≤ 9223372036854775807) : IntKind.i64.wrap z = z := by rw [IntKind.wrap_i64]; omega
theorem tv_set (F : Nat → Nat) {j N : Nat} (v : Nat) (hj : j < N) : tv (fun t => if t = j then v else F t) N + F j * tp j = tv F N + v * tp j := by
  induction N with
  | zero => omega
  | succ N ih =>
    rw [tv_succ, tv_succ]
    by_cases e : j = N
    · subst e
      rw [if_pos rfl, tv_congr (g := F) (fun i hi => by simp [show ¬ i = j by omega])]
      omega
    · have := ih (by omega)
      rw [if_neg (by omega)]
      omega
theorem rmul_step {A A' V y d e f c Yk Pk Pi r q t Pj : Nat} (hPj : Pj = Pi * Pk) (ht : t = f + d * e + c) (hr : r + 10000 * q = t)
    (hA : A' + f * Pj = A + r * Pj) (h : A + c * Pj = V * y + d * Yk * Pi) : A' + q * (10000 * Pj) = V * y + d * (Yk + e * Pk) * Pi := by
  have h1 : r * Pj + q * (10000 * Pj) = (f + d * e + c) * Pj := by rw [← ht, ← hr]; grind
  have h2 : (f + d * e + c) * Pj = d * e * Pj + f * Pj + c * Pj := by grind
  have h3 : d * (Yk + e * Pk) * Pi = d * Yk * Pi + d * e * Pj := by rw [hPj]; grind
  omega
section
variable {w : World} {B n g cap : Nat} {f : Nat → Nat}
theorem Dr.cellAt (h : Dr w B (.slice (some ⟨g, 0, none⟩) n cap) n f) {i : Nat} (hi : i < n) : w.cell? ⟨g, i, none⟩ = some (.int .i64 ((f i : Nat) : Int)) := by
  rw [World.ownsRow.cellAt h i (by omega), dvs_get f hi]
theorem Dr.frozenAt (h : Dr w B (.slice (some ⟨g, 0, none⟩) n cap) n f) (i : Nat) : w.frozen? ⟨g, i, none⟩ = false := World.ownsRow.frozenAt h i
theorem dvs_set (f : Nat → Nat) (n j d : Nat) : (dvs f n).set j (.int .i64 ((d : Nat) : Int)) = dvs (fun i => if i = j then d else f i) n := by
  apply List.ext_getElem?
  intro i
  unfold dvs
  rw [List.getElem?_set]
  by_cases hi : i < n
  · by_cases e : j = i
    · subst e; simp [hi]
    · simp [hi, e, Ne.symm e]
  · by_cases e : j = i
    · subst e; simp [hi]
    · simp [hi, e]
theorem Dr.store (h : Dr w B (.slice (some ⟨g, 0, none⟩) n cap) n f) (j d : Nat) (_hj : j < n) : Dr (w.setCell ⟨g, j, none⟩ (.int .i64 ((d : Nat) : Int))) B (.slice (some ⟨g, 0, none⟩) n cap) n (fun i => if i = j then d else f i) := by
  have := (World.ownsRow.stored h j (.int .i64 ((d : Nat) : Int))).1
  rw [dvs_set] at this
  exact this
theorem Dr.made (W : World) (hB : B ≤ W.heap.size) (n : Nat) (hn : n ≤ 1000000000000) : Dr (W.alloc (.cells (madeCells #[.int .i64 0] n) 3)) B (.slice (some ⟨W.heap.size, 0, none⟩) n n) n (fun _ => 0) := by
  have h := World.ownsRow_lit (base := B) (e := 3) (size := 1) W (madeCells #[.int .i64 0] n) n hB (by unfold maxLen; omega) (by simp [madeCells])
  rw [toList_madeCells_one] at h
  unfold Dr
  rw [show dvs (fun _ => 0) n = List.replicate n (.int .i64 0) from by unfold dvs; rw [List.map_const']; simp]
  exact h
end
/-- 'make(N, n)' -/
theorem make_is (k : Int) (n : Nat) (hk : k = (n : Int)) (h : n ≤ 1000000000000) (W : World) : (Instr.makeSlice 34 (.int .i64 k) (.int .i64 k)).run Tryd.prog W = .ok (.slice (some ⟨W.heap.size, 0, none⟩) n n) (W.alloc (.cells (madeCells #[.int .i64 0] n) 3)) := by
  subst hk
  exact run_make_row' (P := Tryd.prog) 34 3 (.int .i64 0) 8 Tryd.underlying34 info_int rfl .i64 .i64 n (by omega) (by omega) W
end Go.Proofs.YtflhpdlecpehkaaDoor
