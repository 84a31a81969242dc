/- A pack of texts: NatZ, LawN, LawN2, LawW. No condition but those stated. -/
import Derived.Test.YtobojnodohjiaaaGreatDoorPC
import Derived.Test.YtobojnodohjiaaaGreatDoorPR
import Derived.Test.YtobojnodohjiaaaGreatDoorPE
import Derived.Test.YtobojnodohjiaaaGreatDoorPP
import Derived.Test.YtobojnodohjiaaaGreatDoorRefK
import Derived.Test.YtobojnodohjiaaaGreatDoorPH
import Derived.Test.YtobojnodohjiaaaGreatDoorRefL
import Derived.Test.YtobojnodohjiaaaGreatDoorPI
set_option linter.unusedVariables false
set_option linter.unusedSimpArgs false
/- The contracts of package nats with the result under a name of the caller's. No condition but a bound on lengths. -/
namespace Go.Proofs.YtobojnodohjiaaaGreatDoor
open Go.RowKit
end Go.Proofs.YtobojnodohjiaaaGreatDoor
/- gussetlaw01: Made, same, number. No condition but a bound on lengths. -/
namespace Go.Proofs.YtobojnodohjiaaaGreatDoor
open Go.RowKit
end Go.Proofs.YtobojnodohjiaaaGreatDoor
/- gussetlaw01: same, number; the reference in z-form. -/
namespace Go.Proofs.YtobojnodohjiaaaGreatDoor
open Go.RowKit
attribute [local go_sem ↓] Go.wp_at_zero Go.wp_at_succ
theorem zrtext (v : Value) (x : Nat) (s : ByteArray) (w : World) (hs : (⟨(Lib.decDigits x).toArray⟩ : ByteArray) = s) (hx : Rn w v x) (bx : tw x ≤ 10000000) :
    Calls Tryz.prog 177 #[v] w fun e w' => e = .returned (.string s) ∧ Below w.heap.size w w' := hs ▸ rtext_any v x w hx bx
theorem nztexts (a : Nat) (s : ByteArray) (w : World) (hs : (⟨(Lib.decDigits a).toArray⟩ : ByteArray) = s) (ha : wl a ≤ 900000) (HT : Hid (Tab w)) :
    Calls Tryz.prog 154 #[(Value.agg #[.int .u64 ((lo (a) : Nat) : Int), .string (bg (a))])] w fun e w' => e = .returned (.string s) ∧ Below w.heap.size w w' := hs ▸ text_any a w (by omega) HT
theorem Rn.len {w : World} {ao : Option Addr} {n c k : Nat} (h : Rn w (.slice ao n c) k) : n = tw k := by
  obtain ⟨ao', c', e, _⟩ := Dr.slice h
  injection e with _ e2 _
end Go.Proofs.YtobojnodohjiaaaGreatDoor
/- gussetlaw01.works: the examples of the chapter. -/
namespace Go.Proofs.YtobojnodohjiaaaGreatDoor
open Go.RowKit
attribute [local go_sem ↓] Go.wp_at_zero Go.wp_at_succ
attribute [local go_sem ↓] eq_nat eq_nat_zero
end Go.Proofs.YtobojnodohjiaaaGreatDoor
