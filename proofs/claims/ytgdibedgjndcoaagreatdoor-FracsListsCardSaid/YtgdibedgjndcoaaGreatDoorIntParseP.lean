
/- The decimal form of integers, plain: what ints.Parse and its reference return; Parse inverts Text. -/
import Derived.Test.YtgdibedgjndcoaaGreatDoorPU
import Derived.Test.YtgdibedgjndcoaaGreatDoorTextQ
import Derived.Test.YtgdibedgjndcoaaGreatDoorRefL
import Derived.Lib.Strings
namespace Go.Proofs.YtgdibedgjndcoaaGreatDoor
open Go.RowKit
set_option linter.unusedSimpArgs false
set_option linter.unusedVariables false
/-- a minus sign ahead -/
def ineg (s : ByteArray) : Bool := Lib.hasPrefix s.data.toList [45]
/-- what stands behind it -/
def idig (s : ByteArray) : ByteArray := ⟨(Lib.trimPrefix s.data.toList [45]).toArray⟩
/-- the code and the integer that Parse returns -/
def icode (s : ByteArray) : Int := if pcode (idig s) = 0 then (if ineg s = true ∧ pnum (idig s) = 0 then 4 else 0) else pcode (idig s)
def inum (s : ByteArray) : Int := if icode s = 0 then (if ineg s then -((pnum (idig s) : Nat) : Int) else ((pnum (idig s) : Nat) : Int)) else 0
theorem idig_size (s : ByteArray) : (idig s).size ≤ s.size := by
  have := Lib.trimPrefix_le s.data.toList [45]
  unfold idig
  rw [size_mk]
  exact Nat.le_trans this (Nat.le_of_eq Array.length_toList)
theorem pcode_cases (s : ByteArray) : pcode s = 0 ∨ pcode s = 3 ∨ pcode s = 4 := by
  unfold pcode
  split
  · exact .inr (.inl rfl)
  · split
    · exact .inl rfl
    · exact .inr (.inr rfl)
theorem pnum_zero {s : ByteArray} (h : pcode s ≠ 0) : pnum s = 0 := by
  by_cases h1 : 4096 < s.size
  · exact (pcode_limit h1).2
  · by_cases h2 : pgood s
    · exact absurd (pcode_good (by omega) h2).1 h
    · exact (pcode_bad (by omega) h2).2
theorem icode_bad {s : ByteArray} (h : pcode (idig s) ≠ 0) : icode s = pcode (idig s) := by unfold icode; rw [if_neg h]
theorem icode_zero {s : ByteArray} (h : pcode (idig s) = 0) (h2 : ineg s = true) (h3 : pnum (idig s) = 0) : icode s = 4 := by unfold icode; rw [if_pos h, if_pos ⟨h2, h3⟩]
theorem icode_good {s : ByteArray} (h : pcode (idig s) = 0) (h2 : ¬ (ineg s = true ∧ pnum (idig s) = 0)) : icode s = 0 := by unfold icode; rw [if_pos h, if_neg h2]
theorem inum_bad {s : ByteArray} (h : icode s ≠ 0) : inum s = 0 := by unfold inum; rw [if_neg h]
theorem inum_good {s : ByteArray} (h : icode s = 0) : inum s = (if ineg s then -((pnum (idig s) : Nat) : Int) else ((pnum (idig s) : Nat) : Int)) := by unfold inum; rw [if_pos h]
theorem icode_cases (s : ByteArray) : icode s = 0 ∨ icode s = 3 ∨ icode s = 4 := by
  unfold icode
  split
  · split
    · exact .inr (.inr rfl)
    · exact .inl rfl
  · exact pcode_cases (idig s)
theorem inum_abs (s : ByteArray) (h : icode s = 0) : (inum s).natAbs = pnum (idig s) := by
  rw [inum_good h]; split <;> simp
theorem icode_pcode {s : ByteArray} (h : icode s = 0) : pcode (idig s) = 0 := by
  unfold icode at h
  by_cases h1 : pcode (idig s) = 0
  · exact h1
  · rw [if_neg h1] at h; exact absurd h h1
/-- Text inverts Parse -/
theorem itx_inum (s : ByteArray) (h : icode s = 0) : itx (inum s) = s := by
  have hp := icode_pcode h
  have hd := dec_pnum (idig s) hp
  have e : (idig s).data.toList = Lib.trimPrefix s.data.toList [45] := by unfold idig; simp
  rw [e] at hd
  have hm : (⟨s.data.toList.toArray⟩ : ByteArray) = s := by cases s; simp
  unfold itx
  rw [inum_abs s h, hd]
  by_cases hn : ineg s = true
  · have hz : pnum (idig s) ≠ 0 := fun hz => by unfold icode at h; rw [if_pos hp, if_pos ⟨hn, hz⟩] at h; exact absurd h (by decide)
    rw [if_pos (by rw [inum_good h, if_pos hn]; omega)]
    have hn' := hn
    unfold ineg at hn'
    rw [Lib.trimPrefix, if_pos hn']
    obtain ⟨t, ht⟩ := List.isPrefixOf_iff_prefix.1 hn'
    conv => rhs; rw [← hm]
    rw [← ht]
    apply ByteArray.ext
    simp
  · rw [if_neg (by rw [inum_good h, if_neg hn]; omega)]
    unfold ineg at hn
    rw [Lib.trimPrefix, if_neg hn]
theorem itx_data (a : Int) : (itx a).data.toList = if a < 0 then 45 :: Lib.decDigits a.natAbs else Lib.decDigits a.natAbs := by
  unfold itx
  split <;> simp
theorem ineg_itx (a : Int) : ineg (itx a) = decide (a < 0) := by
  unfold ineg
  rw [itx_data]
  by_cases h : a < 0
  · rw [if_pos h, decide_eq_true h]; rfl
  · rw [if_neg h, decide_eq_false h]
    cases hd : Lib.decDigits a.natAbs with
    | nil => rfl
    | cons c l =>
      have := dec_digits a.natAbs c (by rw [hd]; exact List.mem_cons_self ..)
      have hc : c ≠ 45 := fun e => by subst e; exact absurd this.1 (by decide)
      simp [Lib.hasPrefix, List.isPrefixOf, hc]
      try exact fun e => hc e.symm
theorem idig_itx (a : Int) : idig (itx a) = ⟨(Lib.decDigits a.natAbs).toArray⟩ := by
  have h := ineg_itx a
  unfold ineg at h
  unfold idig Lib.trimPrefix
  rw [h]
  by_cases ha : a < 0
  · rw [decide_eq_true ha, if_pos rfl, itx_data, if_pos ha]; rfl
  · rw [decide_eq_false ha, if_neg (by decide), itx_data, if_neg ha]
/-- Parse inverts Text -/
theorem parse_itx (a : Int) (h : Lib.nDigits a.natAbs ≤ 4096) : icode (itx a) = 0 ∧ inum (itx a) = a := by
  obtain ⟨h1, h2⟩ := pnum_dec a.natAbs h
  rw [← idig_itx] at h1 h2
  have hc : icode (itx a) = 0 := icode_good h2 (fun e => by
    rw [ineg_itx, h1, decide_eq_true_eq] at e
    omega)
  refine ⟨hc, ?_⟩
  rw [inum_good hc, ineg_itx, h1]
  by_cases ha : a < 0
  · rw [decide_eq_true ha, if_pos rfl]; omega
  · rw [decide_eq_false ha, if_neg (by decide)]; omega
theorem itx_size (a : Int) : (itx a).size = (if a < 0 then 1 else 0) + Lib.nDigits a.natAbs := by
  have h := congrArg List.length (itx_data a)
  have e : (itx a).size = (itx a).data.toList.length := Array.length_toList.symm
  rw [e, h]
  split
  · rw [List.length_cons, Lib.decDigits_length]; omega
  · rw [Lib.decDigits_length]; omega
theorem itx_inj {a b : Int} (h : itx a = itx b) : a = b := by
  have h1 := ineg_itx a
  have h2 := ineg_itx b
  rw [h, h2] at h1
  have h3 := idig_itx a
  have h4 := idig_itx b
  rw [h, h4] at h3
  have h5 : Lib.decDigits b.natAbs = Lib.decDigits a.natAbs := by
    have := congrArg (fun s : ByteArray => s.data.toList) h3
    simpa using this
  have h6 := dec_inj h5
  by_cases ha : a < 0 <;> by_cases hb : b < 0 <;> simp [ha, hb] at h1 <;> omega
end Go.Proofs.YtgdibedgjndcoaaGreatDoor
