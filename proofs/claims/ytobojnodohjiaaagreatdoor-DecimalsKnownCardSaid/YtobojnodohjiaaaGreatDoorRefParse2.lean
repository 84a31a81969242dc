
/- gussetref02.Parse: the integer of a decimal form, the code. -/
import Derived.Test.YtobojnodohjiaaaGreatDoorPW
import Derived.Test.YtobojnodohjiaaaGreatDoorZrA
set_option linter.unusedVariables false
set_option linter.unusedSimpArgs false
namespace Go.Proofs.YtobojnodohjiaaaGreatDoor
open Go.RowKit
theorem qN2 {s:ByteArray} (h:ineg s=true):idig s=s.extract 1 s.size:=by
 have h0:=h
 unfold ineg at h0
 rw [show ([45]:List UInt8)=(⟨#[45]⟩:ByteArray).data.toList from rfl,← Lib.hasPrefix_raw,Bool.and_eq_true,decide_eq_true_eq] at h0
 exact Lib.trimPrefix_hit s ⟨#[45]⟩ h0.1 h0.2
theorem qN3 {s:ByteArray} (h:ineg s=false):idig s=s:=by
 unfold ineg at h
 unfold idig Lib.trimPrefix
 rw [h]
 cases s;simp
end Go.Proofs.YtobojnodohjiaaaGreatDoor
