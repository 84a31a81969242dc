
/- Decimal forms and numbers: each is the other's inverse; forms of one length stand as the numbers. Plain; no condition. -/
import Derived.Test.YtgdibedgjndcoaaGreatDoorPE
import Derived.Test.YtgdibedgjndcoaaGreatDoorPP
namespace Go.Proofs.YtgdibedgjndcoaaGreatDoor
set_option linter.unusedSimpArgs false
set_option linter.unusedVariables false

/-- the value of a row of digits -/
def lv (l : List UInt8) : Nat := l.foldl (fun n c => 10 * n + (c.toNat - 48)) 0
theorem lv_snoc (l : List UInt8) (c : UInt8) : lv (l ++ [c]) = 10 * lv l + (c.toNat - 48) := by unfold lv; rw [List.foldl_append]; rfl
theorem byt_list (s : ByteArray) (i : Nat) (h : i < s.size) : byt s i = (s.data.toList[i]'(by simpa using h)).toNat := by
  rw [← byt_at h]
  rfl
theorem pv_take (s : ByteArray) : ∀ k, k ≤ s.size → pv s k = lv (s.data.toList.take k)
  | 0, _ => rfl
  | k + 1, h => by
    have hk : k < s.data.toList.length := by have e : s.data.toList.length = s.size := Array.length_toList; omega
    rw [List.take_succ_eq_append_getElem hk, lv_snoc, ← pv_take s k (by omega), ← byt_list s k (by omega)]
    show 10 * pvr s 0 k + (byt s (0 + k) - 48) = 10 * pv s k + _
    rw [Nat.zero_add]
    rfl
theorem pv_lv (s : ByteArray) : pv s s.size = lv s.data.toList := by
  rw [pv_take s s.size (Nat.le_refl _), List.take_of_length_le (by simp)]
theorem dig_ofNat {d : Nat} (h : d < 10) : (UInt8.ofNat (48 + d)).toNat = 48 + d := by
  rw [UInt8.toNat_ofNat']; omega
theorem dec_small {u : Nat} (h : u < 10) : Lib.decDigits u = [UInt8.ofNat (48 + u)] := Lib.decDigits_one h
theorem lv_dec (n : Nat) : lv (Lib.decDigits n) = n := by
  induction n using Nat.strongRecOn with
  | ind n ih =>
    by_cases h : n < 10
    · rw [dec_small h]
      show 10 * 0 + ((UInt8.ofNat (48 + n)).toNat - 48) = n
      rw [dig_ofNat h]; omega
    · rw [decDigits_big h, lv_snoc, ih (n / 10) (by omega), dig_ofNat (by omega)]
      omega
theorem dec_digits (n : Nat) : ∀ c ∈ Lib.decDigits n, 48 ≤ c.toNat ∧ c.toNat ≤ 57 := by
  induction n using Nat.strongRecOn with
  | ind n ih =>
    by_cases h : n < 10
    · rw [dec_small h]
      intro c hc
      rw [List.mem_singleton] at hc
      rw [hc, dig_ofNat h]; omega
    · rw [decDigits_big h]
      intro c hc
      rcases List.mem_append.1 hc with hc | hc
      · exact ih (n / 10) (by omega) c hc
      · rw [List.mem_singleton] at hc
        rw [hc, dig_ofNat (by omega)]; omega
theorem dec_ne (n : Nat) : Lib.decDigits n ≠ [] := by
  by_cases h : n < 10
  · rw [dec_small h]; simp
  · rw [decDigits_big h]; simp
/-- no zero leads, but in the number 0 -/
theorem dec_lead (n : Nat) (c : UInt8) (l : List UInt8) (h : Lib.decDigits n = c :: l) (h0 : c.toNat = 48) : n = 0 := by
  induction n using Nat.strongRecOn generalizing l with
  | ind n ih =>
    by_cases hn : n < 10
    · rw [dec_small hn] at h
      injection h with h1 _
      rw [← h1, dig_ofNat hn] at h0
      omega
    · rw [decDigits_big hn] at h
      cases hd : Lib.decDigits (n / 10) with
      | nil => exact absurd hd (dec_ne _)
      | cons c' l' =>
        rw [hd] at h
        injection h with h1 _
        have := ih (n / 10) (by omega) l' (by rw [hd, h1])
        omega
theorem size_mk (l : List UInt8) : (⟨l.toArray⟩ : ByteArray).size = l.length := by simp [ByteArray.size]
/-- the decimal form is read as the number -/
theorem dec_good (n : Nat) : pgood ⟨(Lib.decDigits n).toArray⟩ := by
  have hsz := size_mk (Lib.decDigits n)
  refine ⟨?_, fun h => ?_, fun i hi => ?_⟩
  · rw [hsz]; exact List.length_pos_iff.2 (dec_ne n)
  · cases hd : Lib.decDigits n with
    | nil => exact absurd hd (dec_ne n)
    | cons c l =>
      have h0 : 0 < (⟨(Lib.decDigits n).toArray⟩ : ByteArray).size := by rw [hsz, hd]; simp
      rw [byt_list _ 0 h0] at h
      have : c.toNat = 48 := by
        rw [← h]
        simp [hd]
      have hn := dec_lead n c l hd this
      subst hn
      rw [dec_small (by decide)] at hd
      injection hd with _ e
      rw [← e]
      simp [ByteArray.size]
  · rw [byt_list _ i hi]
    exact dec_digits n _ (by simp)
theorem pnum_dec (n : Nat) (h : Lib.nDigits n ≤ 4096) : pnum ⟨(Lib.decDigits n).toArray⟩ = n ∧ pcode ⟨(Lib.decDigits n).toArray⟩ = 0 := by
  have hsz := size_mk (Lib.decDigits n)
  rw [Lib.decDigits_length] at hsz
  refine ⟨?_, ?_⟩
  · unfold pnum
    rw [if_pos ⟨by rw [hsz]; exact h, dec_good n⟩, pv_lv]
    show lv (Lib.decDigits n).toArray.toList = n
    rw [List.toList_toArray, lv_dec]
  · unfold pcode
    rw [if_neg (by rw [hsz]; omega), if_pos (dec_good n)]
theorem nDigits_mono {a b : Nat} (h : a ≤ b) : Lib.nDigits a ≤ Lib.nDigits b := by
  have h1 := Lib.lt_pow_nDigits b
  have h2 := Lib.nDigits_pos b
  have := nDigits_le (Lib.nDigits b - 1) a (by rw [show Lib.nDigits b - 1 + 1 = Lib.nDigits b by omega]; omega)
  omega
theorem lv_lt : ∀ l : List UInt8, (∀ c ∈ l, c.toNat ≤ 57) → lv l < 10 ^ l.length := by
  intro l
  induction h : l.length generalizing l with
  | zero => intro _; rw [List.length_eq_zero_iff.1 h]; decide
  | succ k ih =>
    intro hd
    have hne : l ≠ [] := fun e => by rw [e] at h; simp at h
    obtain ⟨l', c, rfl⟩ : ∃ l' c, l = l' ++ [c] := ⟨l.dropLast, l.getLast hne, (List.dropLast_concat_getLast hne).symm⟩
    have := ih l' (by simpa using h) (fun x hx => hd x (List.mem_append_left _ hx))
    have := hd c (by simp)
    rw [lv_snoc, Nat.pow_succ]
    omega
theorem lv_cons (c : UInt8) (l : List UInt8) : lv (c :: l) = (c.toNat - 48) * 10 ^ l.length + lv l := by
  induction h : l.length generalizing l with
  | zero =>
    rw [List.length_eq_zero_iff.1 h]
    show 10 * 0 + (c.toNat - 48) = (c.toNat - 48) * 1 + 0
    omega
  | succ k ih =>
    have hne : l ≠ [] := fun e => by rw [e] at h; simp at h
    obtain ⟨l', d, rfl⟩ : ∃ l' c, l = l' ++ [c] := ⟨l.dropLast, l.getLast hne, (List.dropLast_concat_getLast hne).symm⟩
    have := ih l' (by simpa using h)
    rw [← List.cons_append, lv_snoc, lv_snoc, this, Nat.pow_succ]
    generalize (c.toNat - 48) = x
    rw [show x * (10 ^ k * 10) = 10 * (x * 10 ^ k) by rw [← Nat.mul_assoc, Nat.mul_comm]]
    omega
end Go.Proofs.YtgdibedgjndcoaaGreatDoor
