
/- Decimal forms and numbers: each is the other's inverse; forms of one length stand as the numbers. Plain; no condition. -/
import Derived.Test.YtaflakcemiilaaaGreatDoorPE
import Derived.Test.YtaflakcemiilaaaGreatDoorPP
set_option linter.unusedVariables false
set_option linter.unusedSimpArgs false
namespace Go.Proofs.YtaflakcemiilaaaGreatDoor
def lv (l : List UInt8) : Nat := l.foldl (fun n c => 10 * n + (c.toNat - 48)) 0
theorem lv_snoc (l : List UInt8) (c : UInt8) : lv (l ++ [c]) = 10 * lv l + (c.toNat - 48) := by unfold lv; rw [List.foldl_append]; rfl
theorem byt_list (s : ByteArray) (i : Nat) (h : i < s.size) : byt s i = (s.data.toList[i]'(by simpa using h)).toNat := by
  rw [← byt_at h]
  rfl
theorem pv_take (s : ByteArray) : ∀ k, k ≤ s.size → pv s k = lv (s.data.toList.take k)
  | 0, _ => rfl
  | k + 1, h => by
    have hk : k < s.data.toList.length := by have e : s.data.toList.length = s.size := Array.length_toList; omega
    rw [List.take_succ_eq_append_getElem hk, lv_snoc, ← pv_take s k (by omega), ← byt_list s k (by omega)]
    show 10 * pvr s 0 k + (byt s (0 + k) - 48) = 10 * pv s k + _
    rw [Nat.zero_add]
    rfl
theorem pv_lv (s : ByteArray) : pv s s.size = lv s.data.toList := by
  rw [pv_take s s.size (Nat.le_refl _), List.take_of_length_le (by simp)]
theorem size_mk (l : List UInt8) : (⟨l.toArray⟩ : ByteArray).size = l.length := by simp [ByteArray.size]
theorem lv_lt : ∀ l : List UInt8, (∀ c ∈ l, c.toNat ≤ 57) → lv l < 10 ^ l.length := by
  intro l
  induction h : l.length generalizing l with
  | zero => intro _; rw [List.length_eq_zero_iff.1 h]; decide
  | succ k ih =>
    intro hd
    have hne : l ≠ [] := fun e => by rw [e] at h; simp at h
    obtain ⟨l', c, rfl⟩ : ∃ l' c, l = l' ++ [c] := ⟨l.dropLast, l.getLast hne, (List.dropLast_concat_getLast hne).symm⟩
    have := ih l' (by simpa using h) (fun x hx => hd x (List.mem_append_left _ hx))
    have := hd c (by simp)
    rw [lv_snoc, Nat.pow_succ]
    omega
theorem lv_cons (c : UInt8) (l : List UInt8) : lv (c :: l) = (c.toNat - 48) * 10 ^ l.length + lv l := by
  induction h : l.length generalizing l with
  | zero =>
    rw [List.length_eq_zero_iff.1 h]
    show 10 * 0 + (c.toNat - 48) = (c.toNat - 48) * 1 + 0
    omega
  | succ k ih =>
    have hne : l ≠ [] := fun e => by rw [e] at h; simp at h
    obtain ⟨l', d, rfl⟩ : ∃ l' c, l = l' ++ [c] := ⟨l.dropLast, l.getLast hne, (List.dropLast_concat_getLast hne).symm⟩
    have := ih l' (by simpa using h)
    rw [← List.cons_append, lv_snoc, lv_snoc, this, Nat.pow_succ]
    generalize (c.toNat - 48) = x
    rw [show x * (10 ^ k * 10) = 10 * (x * 10 ^ k) by rw [← Nat.mul_assoc, Nat.mul_comm]]
    omega
end Go.Proofs.YtaflakcemiilaaaGreatDoor
