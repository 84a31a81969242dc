
/- The decimal form of integers, plain: what ints.Parse and its reference return; Parse inverts Text. -/
import Derived.Test.YtaflakcemiilaaaGreatDoorPU
import Derived.Test.YtaflakcemiilaaaGreatDoorTextQ
import Derived.Test.YtaflakcemiilaaaGreatDoorRefL
import Derived.Lib.Strings
set_option linter.unusedVariables false
set_option linter.unusedSimpArgs false
namespace Go.Proofs.YtaflakcemiilaaaGreatDoor
open Go.RowKit
def ineg (s : ByteArray) : Bool := Lib.hasPrefix s.data.toList [45]
def idig (s : ByteArray) : ByteArray := ⟨(Lib.trimPrefix s.data.toList [45]).toArray⟩
theorem idig_size (s : ByteArray) : (idig s).size ≤ s.size := by
  have := Lib.trimPrefix_le s.data.toList [45]
  unfold idig
  rw [size_mk]
  exact Nat.le_trans this (Nat.le_of_eq Array.length_toList)
theorem itx_data (a : Int) : (itx a).data.toList = if a < 0 then 45 :: Lib.decDigits a.natAbs else Lib.decDigits a.natAbs := by
  unfold itx
  split <;> simp
theorem itx_size (a : Int) : (itx a).size = (if a < 0 then 1 else 0) + Lib.nDigits a.natAbs := by
  have h := congrArg List.length (itx_data a)
  have e : (itx a).size = (itx a).data.toList.length := Array.length_toList.symm
  rw [e, h]
  split
  · rw [List.length_cons, Lib.decDigits_length]; omega
  · rw [Lib.decDigits_length]; omega
end Go.Proofs.YtaflakcemiilaaaGreatDoor
