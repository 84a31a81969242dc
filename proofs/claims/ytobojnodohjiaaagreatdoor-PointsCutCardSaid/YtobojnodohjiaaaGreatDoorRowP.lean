
/- The closed facts of the program that all rows share, one by one. No condition. -/
import Derived.Test.YtobojnodohjiaaaGreatDoorPK
import Derived.Test.YtobojnodohjiaaaGreatDoorTie
namespace Go.Proofs.YtobojnodohjiaaaGreatDoor
open Go.ChangeShapes Go.WideShapes Go.ChangeAt Go.RowKit
theorem band {a b : Bool} (h : a = true) (k : b = true) : (a && b) = true := by rw [h, k]; rfl
theorem wide_2 : (laidOutB Tryz.pinned.checked.prog) = true := by kernel_rfl
theorem wide_3 : (mapsRowed Tryz.pinned.checked.prog) = true := by kernel_rfl
theorem wide_7 : ((Tryz.pinned.checked.prog.stops == [])) = true := by kernel_rfl
theorem wide_9 : ((Tryz.pinned.checked.prog.stopKnobs == [])) = true := by kernel_rfl
theorem wide_23 : ((Rows.decimalsCycleRow.plainKeys == Tryz.pinned.checked.prog.plainKeys)) = true := by kernel_rfl
theorem wide_25 : (Tryz.pinned.checked.prog.stopsHeard) = true := by kernel_rfl
theorem wide_26 : (Tryz.pinned.checked.prog.mayEnter) = true := by kernel_rfl
theorem wide_27 : ((Rows.decimalsCycleRow.lifted == Tryz.pinned.checked.prog.liftsFinal)) = true := by kernel_rfl
theorem wide_28 : ((Tryz.pinned.checked.prog.make == some Rows.decimalsCycleRow.make)) = true := by kernel_rfl
theorem wide_main : Tryz.pinned.checked.prog.mainIs = some (true, ("afc079fd19886976e46ad6200161126b18fba977a1a09a428d032e19cd27660d" : String).toList) := by kernel_rfl
theorem wide_looks : false = Tryz.pinned.checked.prog.looks [] := by kernel_rfl
end Go.Proofs.YtobojnodohjiaaaGreatDoor
