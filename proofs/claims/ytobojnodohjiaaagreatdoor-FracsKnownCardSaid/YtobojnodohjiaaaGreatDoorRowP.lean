
/- The closed facts of the program that all rows share, one by one. No condition. -/
import Derived.Test.YtobojnodohjiaaaGreatDoorPK
import Derived.Test.YtobojnodohjiaaaGreatDoorTie
namespace Go.Proofs.YtobojnodohjiaaaGreatDoor
open Go.ChangeShapes Go.WideShapes Go.ChangeAt Go.RowKit
theorem band {a b:Bool} (h:a=true) (k:b=true):(a && b)=true:=by rw [h,k];rfl
theorem xz0:(laidOutB Tryz.pinned.checked.prog)=true:=by kernel_rfl
theorem xz1:(mapsRowed Tryz.pinned.checked.prog)=true:=by kernel_rfl
theorem xz2:((Tryz.pinned.checked.prog.stops == []))=true:=by kernel_rfl
theorem xz3:((Tryz.pinned.checked.prog.stopKnobs == []))=true:=by kernel_rfl
theorem xs0:((Rows.fracsKnownRow.plainKeys == Tryz.pinned.checked.prog.plainKeys))=true:=by kernel_rfl
theorem xs1:(Tryz.pinned.checked.prog.stopsHeard)=true:=by kernel_rfl
theorem xs2:(Tryz.pinned.checked.prog.mayEnter)=true:=by kernel_rfl
theorem xs3:((Rows.fracsKnownRow.lifted == Tryz.pinned.checked.prog.liftsFinal))=true:=by kernel_rfl
theorem xs4:((Tryz.pinned.checked.prog.make == some Rows.fracsKnownRow.make))=true:=by kernel_rfl
theorem xa0:Tryz.pinned.checked.prog.mainIs=some (true,("afc079fd19886976e46ad6200161126b18fba977a1a09a428d032e19cd27660d" : String).toList):=by kernel_rfl
theorem qO_:false=Tryz.pinned.checked.prog.looks []:=by kernel_rfl
end Go.Proofs.YtobojnodohjiaaaGreatDoor
