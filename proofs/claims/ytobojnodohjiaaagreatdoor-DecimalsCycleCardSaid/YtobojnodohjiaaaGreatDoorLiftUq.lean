
/- From a law's walk to its row and card: slices of words, strings, integers; the laid table. No condition. -/
import Derived.Test.YtobojnodohjiaaaGreatDoorPK
import Derived.Test.YtobojnodohjiaaaGreatDoorPJ
import Derived.Test.YtobojnodohjiaaaGreatDoorTie
import Derived.Test.YtobojnodohjiaaaGreatDoorCards
import Derived.OpenShut
import Derived.Lay
import Derived.SevenTiedAt
import Derived.Stop.LaidErr
import Derived.ChangeSame
namespace Go.Proofs.YtobojnodohjiaaaGreatDoor
open Go.ChangeShapes Go.WideShapes Go.ChangeAt Go.RowKit
set_option linter.unusedSimpArgs false
set_option linter.unusedVariables false
theorem tab_of {W : World} (h : laidMetH Tryz.prog Rows.decimalsCycleRow.laid W) : Tab W := by
  rw [MakeChecks.laidMetH_plain _ _ _ (by kernel_rfl)] at h
  have e : (Rows.laid_internal_strconv_uint64pow10 : DataW Unit) = Lib.tabData .u64 Lib.pow10Tab := by kernel_rfl
  have h2 : laidMet Tryz.prog (("internal/strconv.uint64pow10", (Rows.laid_internal_strconv_uint64pow10 : DataW Unit)) :: []) W := by
    first | exact h | exact laidMet.tail h | exact laidMet.tail (laidMet.tail h) | exact laidMet.tail (laidMet.tail (laidMet.tail h))
  rw [e] at h2
  exact Lib.tabIs_of_head (g := 2) (by kernel_rfl) (by kernel_rfl) Tryz.underlying322 Tryz.underlying28 (by kernel_rfl) (by kernel_rfl) h2
set_option maxRecDepth 100000 in
theorem open_q {w : World} {r : Reach} {base : Nat} {v : Value} (h : Value.okWide Tryz.prog w r base 24 v) : ∃ q0 q1 : Int, v = .agg #[.int .i64 q0, .int .u32 q1] ∧ -9223372036854775808 ≤ q0 ∧ q0 ≤ 9223372036854775807 ∧ 0 ≤ q1 ∧ q1 ≤ 4294967295 := by
  obtain ⟨l, rfl, hl, hc⟩ := row_open (ts := [2, 22]) (.inl ⟨_, Tryz.underlying24⟩) (by kernel_rfl) (by kernel_rfl) h
  rcases l with _ | ⟨c0, l⟩
  · simp at hl
  rcases l with _ | ⟨c1, l⟩
  · simp at hl
  rcases l with _ | ⟨x, l⟩
  case cons => simp at hl
  obtain ⟨q0, rfl, k0⟩ := cell_int Tryz.underlying2 (hc 0 _ _ rfl rfl)
  obtain ⟨q1, rfl, k1⟩ := cell_int Tryz.underlying22 (hc 1 _ _ rfl rfl)
  simp [IntKind.has, IntKind.min, IntKind.max, IntKind.bits, IntKind.signed] at k0 k1
  exact ⟨q0, q1, rfl, by omega, by omega, by omega, by omega⟩
end Go.Proofs.YtobojnodohjiaaaGreatDoor
