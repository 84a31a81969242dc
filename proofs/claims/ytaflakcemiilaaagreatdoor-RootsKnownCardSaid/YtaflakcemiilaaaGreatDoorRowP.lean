
/- The closed facts of the program that all rows share, one by one. No condition. -/
import Derived.Test.YtaflakcemiilaaaGreatDoorPK
import Derived.Test.YtaflakcemiilaaaGreatDoorTie
namespace Go.Proofs.YtaflakcemiilaaaGreatDoor
open Go.ChangeShapes Go.WideShapes Go.ChangeAt Go.RowKit
theorem band {a b:Bool} (h:a=true) (k:b=true):(a && b)=true:=by rw [h,k];rfl
theorem xw8:(laidOutB Tryz.pinned.checked.prog)=true:=by kernel_rfl
theorem xz7:(mapsRowed Tryz.pinned.checked.prog)=true:=by kernel_rfl
theorem xx5:((Tryz.pinned.checked.prog.stops == []))=true:=by kernel_rfl
theorem xv8:((Tryz.pinned.checked.prog.stopKnobs == []))=true:=by kernel_rfl
theorem xn0:((Rows.rootsRefusedRow.plainKeys == Tryz.pinned.checked.prog.plainKeys))=true:=by kernel_rfl
theorem xj_:(Tryz.pinned.checked.prog.stopsHeard)=true:=by kernel_rfl
theorem xk0:(Tryz.pinned.checked.prog.mayEnter)=true:=by kernel_rfl
theorem xq1:((Rows.rootsRefusedRow.lifted == Tryz.pinned.checked.prog.liftsFinal))=true:=by kernel_rfl
theorem xl8:((Tryz.pinned.checked.prog.make == some Rows.rootsRefusedRow.make))=true:=by kernel_rfl
theorem qW6:Tryz.pinned.checked.prog.mainIs=some (true,("eb200b34f50dd3952de1662d94e6dcdd3699821c4ce947b73a861d35f98d002f" : String).toList):=by kernel_rfl
theorem qM5:false=Tryz.pinned.checked.prog.looks []:=by kernel_rfl
end Go.Proofs.YtaflakcemiilaaaGreatDoor
