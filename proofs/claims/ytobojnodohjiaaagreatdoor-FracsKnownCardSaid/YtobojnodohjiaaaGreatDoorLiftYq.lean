
/- From a law's walk to its row and card: slices of words, strings, integers; the laid table. No condition. -/
import Derived.Test.YtobojnodohjiaaaGreatDoorPK
import Derived.Test.YtobojnodohjiaaaGreatDoorPJ
import Derived.Test.YtobojnodohjiaaaGreatDoorTie
import Derived.Test.YtobojnodohjiaaaGreatDoorCards
import Derived.OpenShut
import Derived.Lay
import Derived.SevenTiedAt
import Derived.Stop.LaidErr
import Derived.ChangeSame
set_option linter.unusedVariables false
set_option linter.unusedSimpArgs false
namespace Go.Proofs.YtobojnodohjiaaaGreatDoor
open Go.ChangeShapes Go.WideShapes Go.ChangeAt Go.RowKit
theorem xx9 {W:World} (h:laidMetH Tryz.prog Rows.fracsKnownRow.laid W):Tab W:=by
 rw [MakeChecks.laidMetH_plain _ _ _ (by kernel_rfl)] at h
 have e:(Rows.laid_internal_strconv_uint64pow10:DataW Unit)=Lib.tabData .u64 Lib.pow10Tab:=by kernel_rfl
 have h2:laidMet Tryz.prog (("internal/strconv.uint64pow10", (Rows.laid_internal_strconv_uint64pow10:DataW Unit)) :: []) W:=by
  first|exact h|exact laidMet.tail h|exact laidMet.tail (laidMet.tail h)|exact laidMet.tail (laidMet.tail (laidMet.tail h))
 rw [e] at h2
 exact Lib.tabIs_of_head (g:=2) (by kernel_rfl) (by kernel_rfl) Tryz.underlying322 Tryz.underlying28 (by kernel_rfl) (by kernel_rfl) h2
end Go.Proofs.YtobojnodohjiaaaGreatDoor
