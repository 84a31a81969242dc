/- A pack of texts: Root, Root2. No condition but those stated. -/
import Derived.Test.YtgdibedgjndcoaaGreatDoorPD
import Derived.Test.YtgdibedgjndcoaaGreatDoorPB
import Derived.Test.YtgdibedgjndcoaaGreatDoorPM
import Derived.Test.YtgdibedgjndcoaaGreatDoorPC
set_option linter.unusedVariables false
set_option linter.unusedSimpArgs false

/- nats.Sqrt: the integer square root, plain, and the walk. -/
namespace Go.Proofs.YtgdibedgjndcoaaGreatDoor
open Go.RowKit
set_option linter.unusedSimpArgs false
set_option linter.unusedVariables false

def rtTo (a : Nat) : Nat → Nat
  | 0 => 0
  | k + 1 => if (k + 1) * (k + 1) ≤ a then k + 1 else rtTo a k
/-- the integer square root -/
def rt (a : Nat) : Nat := rtTo a a
theorem rtTo_le (a k : Nat) : rtTo a k * rtTo a k ≤ a := by
  induction k with
  | zero => exact Nat.zero_le _
  | succ k ih => unfold rtTo; split <;> assumption
theorem rtTo_lt (a k : Nat) (h : a < (k + 1) * (k + 1)) : a < (rtTo a k + 1) * (rtTo a k + 1) := by
  induction k with
  | zero => exact h
  | succ k ih =>
    unfold rtTo
    split
    · exact h
    · next hn => exact ih (by omega)
theorem rt_le (a : Nat) : rt a * rt a ≤ a := rtTo_le a a
theorem rt_lt (a : Nat) : a < (rt a + 1) * (rt a + 1) := rtTo_lt a a (by
  have : a + 1 ≤ (a + 1) * (a + 1) := Nat.le_mul_of_pos_right _ (by omega)
  omega)
theorem sq_lt {a b : Nat} (h : a * a < b * b) : a < b := by
  rcases Nat.lt_or_ge a b with e | e
  · exact e
  · exact absurd (Nat.mul_le_mul e e) (by omega)
theorem rt_eq {a r : Nat} (h1 : r * r ≤ a) (h2 : a < (r + 1) * (r + 1)) : rt a = r := by
  have h3 : rt a < r + 1 := sq_lt (Nat.lt_of_le_of_lt (rt_le a) h2)
  have h4 : r < rt a + 1 := sq_lt (Nat.lt_of_le_of_lt h1 (rt_lt a))
  omega
theorem rt_self (a : Nat) : rt a ≤ a := by
  rcases Nat.eq_zero_or_pos (rt a) with h | h
  · omega
  · exact Nat.le_trans (Nat.le_mul_of_pos_right _ h) (rt_le a)
theorem newton_ge (a x : Nat) (hx : 0 < x) : rt a ≤ (x + a / x) / 2 := by
  have h1 := rt_le a
  generalize rt a = s at h1
  have h2 : 2 * s - x ≤ a / x := by
    rw [Nat.le_div_iff_mul_le hx]
    rcases Nat.le_total (2 * s) x with e | e
    · rw [Nat.sub_eq_zero_of_le e, Nat.zero_mul]; exact Nat.zero_le _
    · refine Nat.le_trans ?_ h1
      obtain ⟨d, hd⟩ : ∃ d, 2 * s = x + d := ⟨2 * s - x, by omega⟩
      rw [hd, Nat.add_sub_cancel_left]
      have h3 : (x + d) * (x + d) = 4 * (s * s) := by rw [← hd]; simp only [Nat.mul_comm, Nat.mul_left_comm, Nat.mul_assoc]
      have h4 : 4 * (d * x) ≤ (x + d) * (x + d) := by
        rcases Nat.le_total x d with f | f
        · obtain ⟨t, rfl⟩ : ∃ t, d = x + t := ⟨d - x, by omega⟩
          simp only [Nat.mul_add, Nat.add_mul, Nat.mul_comm t x]
          omega
        · obtain ⟨t, rfl⟩ : ∃ t, x = d + t := ⟨x - d, by omega⟩
          simp only [Nat.mul_add, Nat.add_mul, Nat.mul_comm t d]
          omega
      omega
  omega
theorem newton_end (a x : Nat) (hx : 0 < x) (h : rt a ≤ x) (hy : x ≤ (x + a / x) / 2) : rt a = x := by
  have h1 : x ≤ a / x := by omega
  have h2 := (Nat.le_div_iff_mul_le hx).1 h1
  have h3 : x < rt a + 1 := sq_lt (Nat.lt_of_le_of_lt h2 (rt_lt a))
  omega
theorem start_ge (a : Nat) : rt a ≤ 2 ^ ((nb a + 1) / 2) := by
  have h1 : a < 2 ^ nb a := nb_le.1 (Nat.le_refl _)
  have h2 : 2 ^ nb a ≤ 2 ^ ((nb a + 1) / 2) * 2 ^ ((nb a + 1) / 2) := by
    rw [← Nat.pow_add]
    exact Nat.pow_le_pow_right (by decide) (by omega)
  have h3 := rt_le a
  have : rt a < 2 ^ ((nb a + 1) / 2) := sq_lt (by omega)
  omega
theorem wl_two_pow {i k : Nat} (h : i < 32 * k) : wl (2 ^ i) ≤ k := by
  rw [wl_le, bp_eq]
  exact Nat.pow_lt_pow_right (by decide) h
/-- a box of two cells -/
theorem Bx.c0 {w w' : World} {b : Nat} {T : TypeId} {u v : Value} (h : Bx w b T #[u, v]) (hg : Gr w w') : w'.cell? ⟨b, 0, none⟩ = some u := by rw [h.cells w' hg]; rfl
theorem Bx.c1 {w w' : World} {b : Nat} {T : TypeId} {u v : Value} (h : Bx w b T #[u, v]) (hg : Gr w w') : w'.cell? ⟨b, 1, none⟩ = some v := by rw [h.cells w' hg]; rfl
theorem Bx.set2 {w : World} {b : Nat} {T : TypeId} {u v : Value} (h : Bx w b T #[u, v]) (u' v' : Value) : Bx ((w.setCell ⟨b, 0, none⟩ u').setCell ⟨b, 1, none⟩ v') b T #[u', v'] := (((h.set 0 _).set 1 _).eq rfl)
theorem Bx.keep2 {w : World} {b : Nat} {T : TypeId} {cs : Array Value} (h : Bx w b T cs) {b' : Nat} (hb : b ≠ b') (u' v' : Value) : Bx ((w.setCell ⟨b', 0, none⟩ u').setCell ⟨b', 1, none⟩ v') b T cs := (h.setOther hb _).setOther hb _
theorem below_set2 {B : Nat} {w w' : World} (h : Below B w w') {b : Nat} (hb : B ≤ b) (u' v' : Value) : Below B w ((w'.setCell ⟨b, 0, none⟩ u').setCell ⟨b, 1, none⟩ v') := (h.setCell hb _).setCell hb _
end Go.Proofs.YtgdibedgjndcoaaGreatDoor


/- nats.Sqrt: the walk. -/
namespace Go.Proofs.YtgdibedgjndcoaaGreatDoor
open Go.RowKit
set_option linter.unusedSimpArgs false
set_option linter.unusedVariables false

theorem of_2 (w : World) : Calls Tryz.prog 115 #[.int .u64 2] w fun e w' => e = .returned (Value.agg #[.int .u64 ((lo (2) : Nat) : Int), .string (bg (2))]) ∧ Below w.heap.size w w' := of_small 2 w (by decide) (by decide)
end Go.Proofs.YtgdibedgjndcoaaGreatDoor
