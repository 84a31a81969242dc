
/- The decimal form of integers, plain: what ints.Parse and its reference return; Parse inverts Text. -/
import Derived.Test.YtpcfncbcpknobaaGreatDoorPU
import Derived.Test.YtpcfncbcpknobaaGreatDoorTextQ
import Derived.Test.YtpcfncbcpknobaaGreatDoorRefL
import Derived.Lib.Strings
namespace Go.Proofs.YtpcfncbcpknobaaGreatDoor
open Go.RowKit
set_option linter.unusedSimpArgs false
set_option linter.unusedVariables false
/-- a minus sign ahead -/
def ineg (s : ByteArray) : Bool := Lib.hasPrefix s.data.toList [45]
/-- what stands behind it -/
def idig (s : ByteArray) : ByteArray := ⟨(Lib.trimPrefix s.data.toList [45]).toArray⟩
/-- the code and the integer that Parse returns -/
def icode (s : ByteArray) : Int := if pcode (idig s) = 0 then (if ineg s = true ∧ pnum (idig s) = 0 then 4 else 0) else pcode (idig s)
def inum (s : ByteArray) : Int := if icode s = 0 then (if ineg s then -((pnum (idig s) : Nat) : Int) else ((pnum (idig s) : Nat) : Int)) else 0
theorem idig_size (s : ByteArray) : (idig s).size ≤ s.size := by
  have := Lib.trimPrefix_le s.data.toList [45]
  unfold idig
  rw [size_mk]
  exact Nat.le_trans this (Nat.le_of_eq Array.length_toList)
theorem pcode_cases (s : ByteArray) : pcode s = 0 ∨ pcode s = 3 ∨ pcode s = 4 := by
  unfold pcode
  split
  · exact .inr (.inl rfl)
  · split
    · exact .inl rfl
    · exact .inr (.inr rfl)
theorem pnum_zero {s : ByteArray} (h : pcode s ≠ 0) : pnum s = 0 := by
  by_cases h1 : 4096 < s.size
  · exact (pcode_limit h1).2
  · by_cases h2 : pgood s
    · exact absurd (pcode_good (by omega) h2).1 h
    · exact (pcode_bad (by omega) h2).2
theorem icode_bad {s : ByteArray} (h : pcode (idig s) ≠ 0) : icode s = pcode (idig s) := by unfold icode; rw [if_neg h]
theorem icode_zero {s : ByteArray} (h : pcode (idig s) = 0) (h2 : ineg s = true) (h3 : pnum (idig s) = 0) : icode s = 4 := by unfold icode; rw [if_pos h, if_pos ⟨h2, h3⟩]
theorem icode_good {s : ByteArray} (h : pcode (idig s) = 0) (h2 : ¬ (ineg s = true ∧ pnum (idig s) = 0)) : icode s = 0 := by unfold icode; rw [if_pos h, if_neg h2]
theorem inum_bad {s : ByteArray} (h : icode s ≠ 0) : inum s = 0 := by unfold inum; rw [if_neg h]
theorem inum_good {s : ByteArray} (h : icode s = 0) : inum s = (if ineg s then -((pnum (idig s) : Nat) : Int) else ((pnum (idig s) : Nat) : Int)) := by unfold inum; rw [if_pos h]
theorem icode_cases (s : ByteArray) : icode s = 0 ∨ icode s = 3 ∨ icode s = 4 := by
  unfold icode
  split
  · split
    · exact .inr (.inr rfl)
    · exact .inl rfl
  · exact pcode_cases (idig s)
theorem inum_abs (s : ByteArray) (h : icode s = 0) : (inum s).natAbs = pnum (idig s) := by
  rw [inum_good h]; split <;> simp
theorem itx_data (a : Int) : (itx a).data.toList = if a < 0 then 45 :: Lib.decDigits a.natAbs else Lib.decDigits a.natAbs := by
  unfold itx
  split <;> simp
theorem itx_size (a : Int) : (itx a).size = (if a < 0 then 1 else 0) + Lib.nDigits a.natAbs := by
  have h := congrArg List.length (itx_data a)
  have e : (itx a).size = (itx a).data.toList.length := Array.length_toList.symm
  rw [e, h]
  split
  · rw [List.length_cons, Lib.decDigits_length]; omega
  · rw [Lib.decDigits_length]; omega
end Go.Proofs.YtpcfncbcpknobaaGreatDoor
