
/- Decimal forms and numbers: each is the other's inverse; forms of one length stand as the numbers. Plain; no condition. -/
import Derived.Test.YtpcfncbcpknobaaGreatDoorPE
import Derived.Test.YtpcfncbcpknobaaGreatDoorPP
namespace Go.Proofs.YtpcfncbcpknobaaGreatDoor
set_option linter.unusedSimpArgs false
set_option linter.unusedVariables false

/-- the value of a row of digits -/
def lv (l : List UInt8) : Nat := l.foldl (fun n c => 10 * n + (c.toNat - 48)) 0
theorem lv_snoc (l : List UInt8) (c : UInt8) : lv (l ++ [c]) = 10 * lv l + (c.toNat - 48) := by unfold lv; rw [List.foldl_append]; rfl
theorem byt_list (s : ByteArray) (i : Nat) (h : i < s.size) : byt s i = (s.data.toList[i]'(by simpa using h)).toNat := by
  rw [← byt_at h]
  rfl
theorem pv_take (s : ByteArray) : ∀ k, k ≤ s.size → pv s k = lv (s.data.toList.take k)
  | 0, _ => rfl
  | k + 1, h => by
    have hk : k < s.data.toList.length := by have e : s.data.toList.length = s.size := Array.length_toList; omega
    rw [List.take_succ_eq_append_getElem hk, lv_snoc, ← pv_take s k (by omega), ← byt_list s k (by omega)]
    show 10 * pvr s 0 k + (byt s (0 + k) - 48) = 10 * pv s k + _
    rw [Nat.zero_add]
    rfl
theorem pv_lv (s : ByteArray) : pv s s.size = lv s.data.toList := by
  rw [pv_take s s.size (Nat.le_refl _), List.take_of_length_le (by simp)]
theorem size_mk (l : List UInt8) : (⟨l.toArray⟩ : ByteArray).size = l.length := by simp [ByteArray.size]
theorem lv_lt : ∀ l : List UInt8, (∀ c ∈ l, c.toNat ≤ 57) → lv l < 10 ^ l.length := by
  intro l
  induction h : l.length generalizing l with
  | zero => intro _; rw [List.length_eq_zero_iff.1 h]; decide
  | succ k ih =>
    intro hd
    have hne : l ≠ [] := fun e => by rw [e] at h; simp at h
    obtain ⟨l', c, rfl⟩ : ∃ l' c, l = l' ++ [c] := ⟨l.dropLast, l.getLast hne, (List.dropLast_concat_getLast hne).symm⟩
    have := ih l' (by simpa using h) (fun x hx => hd x (List.mem_append_left _ hx))
    have := hd c (by simp)
    rw [lv_snoc, Nat.pow_succ]
    omega
end Go.Proofs.YtpcfncbcpknobaaGreatDoor
