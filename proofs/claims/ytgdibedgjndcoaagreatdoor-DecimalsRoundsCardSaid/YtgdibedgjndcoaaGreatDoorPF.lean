/- A pack of texts: Ten, TenRow, RefA, RefB, RefC, RefD, RefE. No condition but those stated. -/
import Derived.Test.YtgdibedgjndcoaaGreatDoorPA
import Derived.Test.YtgdibedgjndcoaaGreatDoorPC
set_option linter.unusedVariables false
set_option linter.unusedSimpArgs false

/- Numbers in digits to the base 10000: values of rows of digits, the digits of a number, how many digits a number has. No condition; nothing here speaks of the program. -/
namespace Go.Proofs.YtgdibedgjndcoaaGreatDoor

/-- 10000 to the n -/
def tp (n : Nat) : Nat := 10000 ^ n
theorem tp_zero : tp 0 = 1 := rfl
theorem tp_succ (n : Nat) : tp (n + 1) = 10000 * tp n := by unfold tp; rw [Nat.pow_succ, Nat.mul_comm]
theorem tp_add (m n : Nat) : tp (m + n) = tp m * tp n := by unfold tp; rw [Nat.pow_add]
theorem tp_pos (n : Nat) : 0 < tp n := by unfold tp; exact Nat.pow_pos (by decide)
theorem tp_one : tp 1 = 10000 := rfl
/-- the value of the first n digits of f, least significant first -/
def tv (f : Nat → Nat) : Nat → Nat
  | 0 => 0
  | n + 1 => tv f n + f n * tp n

theorem tv_succ (f : Nat → Nat) (n : Nat) : tv f (n + 1) = tv f n + f n * tp n := rfl

theorem tv_lt {f : Nat → Nat} {n : Nat} (h : ∀ i, i < n → f i < 10000) : tv f n < tp n := by
  induction n with
  | zero => simp [tv, tp]
  | succ n ih =>
    have h1 := ih (fun i hi => h i (by omega))
    have h2 := h n (by omega)
    have h3 : f n * tp n ≤ 9999 * tp n := Nat.mul_le_mul_right _ (by omega)
    rw [tv_succ, tp_succ]
    omega

theorem tv_split (f : Nat → Nat) (m n : Nat) : tv f (m + n) = tv f m + tp m * tv (fun i => f (m + i)) n := by
  induction n with
  | zero => simp [tv]
  | succ n ih =>
    rw [← Nat.add_assoc, tv_succ, ih, tv_succ, Nat.mul_add, tp_add, Nat.add_assoc]
    congr 2
    rw [← Nat.mul_assoc, ← Nat.mul_assoc, Nat.mul_comm (f (m + n))]

theorem tv_cons (f : Nat → Nat) (n : Nat) : tv f (n + 1) = f 0 + 10000 * tv (fun i => f (i + 1)) n := by
  rw [Nat.add_comm n 1, tv_split]
  simp [tv, tp_one, tp_zero, Nat.add_comm]

theorem tv_top {f : Nat → Nat} {n : Nat} (h : f n ≠ 0) : tp n ≤ tv f (n + 1) := by
  rw [tv_succ]
  have : 1 * tp n ≤ f n * tp n := Nat.mul_le_mul_right _ (by omega)
  omega

/-- digit i of n -/
def tg (n i : Nat) : Nat := n / tp i % 10000
theorem tg_tv {f : Nat → Nat} {n : Nat} (hf : ∀ j, j < n → f j < 10000) {i : Nat} (hi : i < n) : tg (tv f n) i = f i := by
  have h1 : tv f n = tv f i + tp i * tv (fun j => f (i + j)) (n - i) := by
    rw [← tv_split]; congr 1; omega
  have h2 : tv f i < tp i := tv_lt (fun j hj => hf j (by omega))
  rw [tg, h1, Nat.add_mul_div_left _ _ (tp_pos i), Nat.div_eq_of_lt h2, Nat.zero_add, show n - i = (n - i - 1) + 1 by omega, tv_cons]
  rw [Nat.add_mul_mod_self_left]
  exact Nat.mod_eq_of_lt (hf _ hi)

/-- how many digits n has -/
def tw (n : Nat) : Nat := if n = 0 then 0 else tw (n / 10000) + 1
decreasing_by omega
theorem tw_le {n k : Nat} : tw n ≤ k ↔ n < tp k := by
  induction n using Nat.strongRecOn generalizing k with
  | ind n ih =>
    rw [tw]
    split
    · next h => subst h; simp [tp_pos]
    · next h =>
      cases k with
      | zero => rw [tp_zero]; omega
      | succ k =>
        rw [Nat.add_le_add_iff_right, ih (n / 10000) (by omega), tp_succ]
        omega
theorem lt_tw {n k : Nat} : k < tw n ↔ tp k ≤ n := by
  have := @tw_le n k
  omega
theorem lt_tp_tw (n : Nat) : n < tp (tw n) := tw_le.1 (Nat.le_refl _)
theorem tw_zero : tw 0 = 0 := by rw [tw]; rfl
theorem tw_mono {m n : Nat} (h : m ≤ n) : tw m ≤ tw n := tw_le.2 (Nat.lt_of_le_of_lt h (lt_tp_tw n))
theorem tw_of {n k : Nat} (h1 : tp k ≤ n) (h2 : n < tp (k + 1)) : tw n = k + 1 := by
  have a := tw_le.2 h2
  have b := lt_tw.2 h1
  omega
theorem tw_div (a b : Nat) : tw (a / b) ≤ tw a := tw_mono (Nat.div_le_self _ _)
theorem tw_small {n : Nat} (h : n < 10000) : tw n ≤ 1 := tw_le.2 (by rw [tp_one]; exact h)
/-- the top digit of a row is not 0: the row's value has as many digits as the row -/
theorem tw_tv {f : Nat → Nat} {n : Nat} (hf : ∀ j, j < n → f j < 10000) (ht : 0 < n → f (n - 1) ≠ 0) : tw (tv f n) = n := by
  cases n with
  | zero => exact tw_zero
  | succ n => exact tw_of (tv_top (ht (by omega))) (tv_lt hf)

end Go.Proofs.YtgdibedgjndcoaaGreatDoor


/- Rows of digits in memory, and appending to one's own. No condition. -/
namespace Go.Proofs.YtgdibedgjndcoaaGreatDoor
open Go.RowKit

theorem tv_tl (f : Nat → Nat) (n : Nat) : tv f (tl f n) = tv f n := by
  induction n with
  | zero => rfl
  | succ n ih =>
    unfold tl
    split
    · next e => rw [ih, tv_succ, e]; simp
    · rfl
theorem tl_tw {f : Nat → Nat} {n : Nat} (hf : ∀ i, i < n → f i < 10000) : tl f n = tw (tv f n) := by
  rw [← tv_tl]
  have := tl_le f n
  exact (tw_tv (fun j hj => hf j (by omega)) tl_top).symm
/-- digits as values -/
def dvs (f : Nat → Nat) (n : Nat) : List Value := (List.range n).map fun i => .int .i64 ((f i : Nat) : Int)
theorem dvs_length (f : Nat → Nat) (n : Nat) : (dvs f n).length = n := by simp [dvs]
theorem dvs_get (f : Nat → Nat) {n i : Nat} (h : i < n) : (dvs f n)[i]? = some (.int .i64 ((f i : Nat) : Int)) := by simp [dvs, h]
theorem dvs_congr {f g : Nat → Nat} {n : Nat} (h : ∀ i, i < n → f i = g i) : dvs f n = dvs g n := by
  apply List.map_congr_left
  intro i hi
  rw [h i (by simpa using hi)]
theorem dvs_take (f : Nat → Nat) {m n : Nat} (h : m ≤ n) : (dvs f n).take m = dvs f m := by
  unfold dvs
  rw [← List.map_take, List.take_range, Nat.min_eq_left h]
/-- v owns n digits f, in blocks from B on -/
def Dr (w : World) (B : Nat) (v : Value) (n : Nat) (f : Nat → Nat) : Prop := w.ownsRow B 3 1 v n (dvs f n)
/-- v is the number n -/
def Rn (w : World) (v : Value) (n : Nat) : Prop := Dr w 0 v (tw n) (tg n)

section
variable {w w' : World} {B n : Nat} {v : Value} {f g : Nat → Nat}
theorem Dr.cases (h : Dr w B v n f) : (v = .slice none 0 0 ∧ n = 0) ∨ ∃ b c, v = .slice (some ⟨b, 0, none⟩) n c ∧ B ≤ b ∧ b < w.heap.size ∧ n ≤ c ∧ c ≤ 9223372036854775807 ∧ (∀ i, i < n → w.cell? ⟨b, i, none⟩ = some (.int .i64 ((f i : Nat) : Int))) ∧ (∀ i, w.frozen? ⟨b, i, none⟩ = false) := by
  have h0 := h
  rcases h.2 with hn | ⟨b, c, cur, rfl, hb, hg, hc, hm, hs, ht⟩
  · exact .inl hn
  · refine .inr ⟨b, c, rfl, hb, (Array.getElem?_eq_some_iff.1 hg).1, hc, hm, fun i hi => ?_, fun i => h0.frozenAt i⟩
    rw [World.ownsRow.cellAt h0 i (by omega), dvs_get f hi]
theorem Dr.slice (h : Dr w B v n f) : ∃ ao c, v = .slice ao n c ∧ n ≤ c ∧ c ≤ 9223372036854775807 := by
  rcases h.cases with ⟨rfl, rfl⟩ | ⟨b, c, rfl, _, _, h1, h2, _⟩
  · exact ⟨none, 0, rfl, Nat.le_refl _, by decide⟩
  · exact ⟨_, _, rfl, h1, h2⟩
theorem Dr.congr (h : Dr w B v n f) (e : ∀ i, i < n → f i = g i) : Dr w B v n g := by unfold Dr at *; rw [← dvs_congr e]; exact h
theorem Dr.gr (h : Dr w B v n f) (hg : Gr w w') : Dr w' B v n f := by
  refine ⟨h.1, ?_⟩
  rcases h.2 with hn | ⟨b, c, cur, rfl, hb, hh, rest⟩
  · exact .inl hn
  · exact .inr ⟨b, c, cur, rfl, hb, hg.block hh, rest⟩
theorem Dr.mono {C : Nat} (h : Dr w B v n f) (hC : C ≤ B) : Dr w C v n f := by
  refine ⟨h.1, ?_⟩
  rcases h.2 with hn | ⟨b, c, cur, rfl, hb, rest⟩
  · exact .inl hn
  · exact .inr ⟨b, c, cur, rfl, Nat.le_trans hC hb, rest⟩
theorem Dr.below {C : Nat} (h : Dr w 0 v n f) (hb : Below C w w') (hlt : ∀ k, v.ownBlock = some k → k < C) : Dr w' 0 v n f := by
  refine ⟨h.1, ?_⟩
  rcases h.2 with hn | ⟨b, c, cur, rfl, hb0, hh, rest⟩
  · exact .inl hn
  · exact .inr ⟨b, c, cur, rfl, hb0, (hb.block b (hlt b rfl)).trans hh, rest⟩
theorem Dr.drew (h : Dr w B v n f) : Dr w.drew B v n f := h
theorem Dr.drewN (h : Dr w B v n f) (k : Nat) : Dr (w.drewN k) B v n f := h
theorem Dr.alloc (h : Dr w B v n f) (o : Obj) : Dr (w.alloc o) B v n f := h.gr (Gr.alloc w o)
theorem Dr.nil (w : World) (B : Nat) (f : Nat → Nat) : Dr w B (.slice none 0 0) 0 f := World.ownsRow_nil _ _ _ _
theorem Dr.take {m : Nat} {ao : Option Addr} {c : Nat} (h : Dr w B (.slice ao n c) n f) (hm : m ≤ n) : Dr w B (.slice ao m c) m f := by
  refine ⟨by simp [dvs_length], ?_⟩
  rcases h.2 with ⟨e, rfl⟩ | ⟨b, c', cur, e, hb, hh, h1, h2, h3, h4⟩
  · obtain rfl : m = 0 := by omega
    exact .inl ⟨e, rfl⟩
  · injection e with e1 e2 e3
    subst e1 e3
    refine .inr ⟨b, c, cur, rfl, hb, hh, Nat.le_trans hm h1, h2, h3, ?_⟩
    have e := congrArg (List.take (m * 1)) h4
    rw [List.take_take, Nat.min_eq_left (by omega)] at e
    rw [e, Nat.mul_one, dvs_take f hm]
theorem Dr.own (h : Dr w B v n f) : ∀ k, v.ownBlock = some k → B ≤ k ∧ k < w.heap.size := World.ownsRow.lt h
/-- a row without leading zeros is a number -/
theorem Rn.of (h : Dr w B v (tl f n) f) (hf : ∀ i, i < n → f i < 10000) : Rn w v (tv f n) := by
  have e := tl_tw hf
  have hle := tl_le f n
  unfold Rn
  rw [← e]
  refine (h.mono (Nat.zero_le _)).congr fun i hi => ?_
  rw [← tv_tl, tg_tv (fun j hj => hf j (by omega)) hi]
theorem Rn.gr {k : Nat} (h : Rn w v k) (hg : Gr w w') : Rn w' v k := Dr.gr h hg
end
theorem new_cell (W : World) (x : Value) (T : TypeId) : ∀ j u, [x][j]? = some u → (W.alloc (.cells #[x] T)).cell? ((⟨W.heap.size, 0, none⟩ : Addr).add j) = some u := by
  intro j u hj
  match j, hj with
  | 0, hj => simp at hj; subst hj; simp [Addr.add, go_sem]
theorem new_one (k : IntKind) (n : Int) : ∀ u ∈ [Value.int k n], u.oneCell' = true := by intro u hu; simp at hu; subst hu; rfl
end Go.Proofs.YtgdibedgjndcoaaGreatDoor


/- gussetref01: trim, at, Of. No condition but a bound on lengths. -/
namespace Go.Proofs.YtgdibedgjndcoaaGreatDoor
open Go.RowKit
set_option linter.unusedSimpArgs false
set_option linter.unusedVariables false

end Go.Proofs.YtgdibedgjndcoaaGreatDoor


/- gussetref01.Add. No condition but a bound on lengths. -/
namespace Go.Proofs.YtgdibedgjndcoaaGreatDoor
open Go.RowKit
set_option linter.unusedSimpArgs false
set_option linter.unusedVariables false

end Go.Proofs.YtgdibedgjndcoaaGreatDoor


/- gussetref01.Cmp, leading. No condition but a bound on lengths. -/
namespace Go.Proofs.YtgdibedgjndcoaaGreatDoor
open Go.RowKit
set_option linter.unusedSimpArgs false
set_option linter.unusedVariables false

end Go.Proofs.YtgdibedgjndcoaaGreatDoor


/- gussetref01.Sub. No condition but a bound on lengths. -/
namespace Go.Proofs.YtgdibedgjndcoaaGreatDoor
open Go.RowKit
set_option linter.unusedSimpArgs false
set_option linter.unusedVariables false

end Go.Proofs.YtgdibedgjndcoaaGreatDoor


/- gussetref01.Mul. No condition but a bound on lengths. -/
namespace Go.Proofs.YtgdibedgjndcoaaGreatDoor
open Go.RowKit
set_option linter.unusedSimpArgs false
set_option linter.unusedVariables false

section
variable {w : World} {B n g cap : Nat} {f : Nat → Nat}
theorem Dr.cellAt (h : Dr w B (.slice (some ⟨g, 0, none⟩) n cap) n f) {i : Nat} (hi : i < n) : w.cell? ⟨g, i, none⟩ = some (.int .i64 ((f i : Nat) : Int)) := by
  rw [World.ownsRow.cellAt h i (by omega), dvs_get f hi]
theorem Dr.frozenAt (h : Dr w B (.slice (some ⟨g, 0, none⟩) n cap) n f) (i : Nat) : w.frozen? ⟨g, i, none⟩ = false := World.ownsRow.frozenAt h i
theorem dvs_set (f : Nat → Nat) (n j d : Nat) : (dvs f n).set j (.int .i64 ((d : Nat) : Int)) = dvs (fun i => if i = j then d else f i) n := by
  apply List.ext_getElem?
  intro i
  unfold dvs
  rw [List.getElem?_set]
  by_cases hi : i < n
  · by_cases e : j = i
    · subst e; simp [hi]
    · simp [hi, e, Ne.symm e]
  · by_cases e : j = i
    · subst e; simp [hi]
    · simp [hi, e]
theorem Dr.store (h : Dr w B (.slice (some ⟨g, 0, none⟩) n cap) n f) (j d : Nat) (_hj : j < n) : Dr (w.setCell ⟨g, j, none⟩ (.int .i64 ((d : Nat) : Int))) B (.slice (some ⟨g, 0, none⟩) n cap) n (fun i => if i = j then d else f i) := by
  have := (World.ownsRow.stored h j (.int .i64 ((d : Nat) : Int))).1
  rw [dvs_set] at this
  exact this
theorem Dr.made (W : World) (hB : B ≤ W.heap.size) (n : Nat) (hn : n ≤ 1000000000000) : Dr (W.alloc (.cells (madeCells #[.int .i64 0] n) 3)) B (.slice (some ⟨W.heap.size, 0, none⟩) n n) n (fun _ => 0) := by
  have h := World.ownsRow_lit (base := B) (e := 3) (size := 1) W (madeCells #[.int .i64 0] n) n hB (by unfold maxLen; omega) (by simp [madeCells])
  rw [toList_madeCells_one] at h
  unfold Dr
  rw [show dvs (fun _ => 0) n = List.replicate n (.int .i64 0) from by unfold dvs; rw [List.map_const']; simp]
  exact h
end
end Go.Proofs.YtgdibedgjndcoaaGreatDoor
