
/- A slice of fractions. -/
import Derived.Test.YtaflakcemiilaaaGreatDoorPL
import Derived.Test.YtaflakcemiilaaaGreatDoorHp
namespace Go.Proofs.YtaflakcemiilaaaGreatDoor
open Go.RowKit
set_option linter.unusedSimpArgs false
set_option linter.unusedVariables false
/-- the cells of a fraction -/
def fcl (q : Rat) : List Value := [.int .u64 ((lo (Int.natAbs ((q).num)) : Nat) : Int), .string (bg (Int.natAbs ((q).num))), .bool (decide (((q).num) < 0)), .int .u64 ((lo ((q).den - 1) : Nat) : Int), .string (bg ((q).den - 1))]
/-- a slice of fractions -/
def Fs (w : World) (v : Value) (n : Nat) (f : Nat → Rat) : Prop :=
  (∃ ao c, v = .slice ao n c ∧ n = 0) ∨ ∃ b o c, v = .slice (some ⟨b, o, none⟩) n c ∧ b < w.heap.size ∧ ∀ i, i < n → ∀ j, j < 5 → w.cell? ⟨b, o + i * 5 + j, none⟩ = (fcl (f i))[j]?
theorem Fs.gr {w w' : World} {v : Value} {n : Nat} {f : Nat → Rat} (h : Fs w v n f) (hg : Gr w w') : Fs w' v n f := by
  rcases h with h | ⟨b, o, c, rfl, hb, hc⟩
  · exact .inl h
  · exact .inr ⟨b, o, c, rfl, Nat.lt_of_lt_of_le hb hg.size, fun i hi j hj => (Below.cell hg (p := ⟨b, o + i * 5 + j, none⟩) hb).trans (hc i hi j hj)⟩
theorem Fs.slice {w : World} {v : Value} {n : Nat} {f : Nat → Rat} (h : Fs w v n f) : ∃ ao c, v = .slice ao n c := by
  rcases h with ⟨ao, c, rfl, _⟩ | ⟨b, o, c, rfl, _⟩
  · exact ⟨_, _, rfl⟩
  · exact ⟨_, _, rfl⟩
/-- the sum of the first k -/
def qsum (f : Nat → Rat) : Nat → Rat
  | 0 => 0
  | k + 1 => qsum f k + f k
theorem sz_qsum (f : Nat → Rat) (n M : Nat) (h : ∀ i, i < n → sz (f i) ≤ M) (k : Nat) (hk : k ≤ n) : sz (qsum f k) ≤ 1 + k * (M + 1) := by
  induction k with
  | zero => exact Nat.le_trans (sz_of (wl_small (by decide)) (wl_small (by decide)) : sz (0 : Rat) ≤ 1) (Nat.le_add_right 1 _)
  | succ k ih =>
    have h1 := sz_add (qsum f k) (f k)
    have h2 := ih (by omega)
    have h3 := h k (by omega)
    have h4 : (k + 1) * (M + 1) = k * (M + 1) + (M + 1) := by rw [Nat.succ_mul]
    show sz (qsum f k + f k) ≤ _
    omega
end Go.Proofs.YtaflakcemiilaaaGreatDoor
