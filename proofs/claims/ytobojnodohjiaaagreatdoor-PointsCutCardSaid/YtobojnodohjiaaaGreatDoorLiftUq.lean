
/- From a law's walk to its row and card: slices of words, strings, integers; the laid table. No condition. -/
import Derived.Test.YtobojnodohjiaaaGreatDoorPK
import Derived.Test.YtobojnodohjiaaaGreatDoorPJ
import Derived.Test.YtobojnodohjiaaaGreatDoorTie
import Derived.Test.YtobojnodohjiaaaGreatDoorCards
import Derived.OpenShut
import Derived.Lay
import Derived.SevenTiedAt
import Derived.Stop.LaidErr
import Derived.ChangeSame
set_option linter.unusedVariables false
set_option linter.unusedSimpArgs false
namespace Go.Proofs.YtobojnodohjiaaaGreatDoor
open Go.ChangeShapes Go.WideShapes Go.ChangeAt Go.RowKit
theorem tab_of {W : World} (h : laidMetH Tryz.prog Rows.decimalsCycleRow.laid W) : Tab W := by
  rw [MakeChecks.laidMetH_plain _ _ _ (by kernel_rfl)] at h
  have e : (Rows.laid_internal_strconv_uint64pow10 : DataW Unit) = Lib.tabData .u64 Lib.pow10Tab := by kernel_rfl
  have h2 : laidMet Tryz.prog (("internal/strconv.uint64pow10", (Rows.laid_internal_strconv_uint64pow10 : DataW Unit)) :: []) W := by
    first | exact h | exact laidMet.tail h | exact laidMet.tail (laidMet.tail h) | exact laidMet.tail (laidMet.tail (laidMet.tail h))
  rw [e] at h2
  exact Lib.tabIs_of_head (g := 2) (by kernel_rfl) (by kernel_rfl) Tryz.underlying322 Tryz.underlying28 (by kernel_rfl) (by kernel_rfl) h2
set_option maxRecDepth 100000 in
theorem open_x {w : World} {r : Reach} {base : Nat} {v : Value} (h : Value.okWide Tryz.prog w r base 27 v) : ∃ x0 x1 x2 x3 x4 x5 x6 x7 x8 x9 x10 x11 x12 x13 x14 x15 : Int, v = .agg #[.int .i64 x0, .int .u32 x1, .int .i64 x2, .int .u32 x3, .int .i64 x4, .int .u32 x5, .int .i64 x6, .int .u32 x7, .int .i64 x8, .int .u32 x9, .int .i64 x10, .int .u32 x11, .int .i64 x12, .int .u32 x13, .int .i64 x14, .int .u32 x15] ∧ -9223372036854775808 ≤ x0 ∧ x0 ≤ 9223372036854775807 ∧ 0 ≤ x1 ∧ x1 ≤ 4294967295 ∧ -9223372036854775808 ≤ x2 ∧ x2 ≤ 9223372036854775807 ∧ 0 ≤ x3 ∧ x3 ≤ 4294967295 ∧ -9223372036854775808 ≤ x4 ∧ x4 ≤ 9223372036854775807 ∧ 0 ≤ x5 ∧ x5 ≤ 4294967295 ∧ -9223372036854775808 ≤ x6 ∧ x6 ≤ 9223372036854775807 ∧ 0 ≤ x7 ∧ x7 ≤ 4294967295 ∧ -9223372036854775808 ≤ x8 ∧ x8 ≤ 9223372036854775807 ∧ 0 ≤ x9 ∧ x9 ≤ 4294967295 ∧ -9223372036854775808 ≤ x10 ∧ x10 ≤ 9223372036854775807 ∧ 0 ≤ x11 ∧ x11 ≤ 4294967295 ∧ -9223372036854775808 ≤ x12 ∧ x12 ≤ 9223372036854775807 ∧ 0 ≤ x13 ∧ x13 ≤ 4294967295 ∧ -9223372036854775808 ≤ x14 ∧ x14 ≤ 9223372036854775807 ∧ 0 ≤ x15 ∧ x15 ≤ 4294967295 := by
  obtain ⟨l, rfl, hl, hc⟩ := row_open (ts := [2, 22, 2, 22, 2, 22, 2, 22, 2, 22, 2, 22, 2, 22, 2, 22]) (.inr ⟨_, _, Tryz.underlying27⟩) (by kernel_rfl) (by kernel_rfl) h
  rcases l with _ | ⟨c0, l⟩
  · simp at hl
  rcases l with _ | ⟨c1, l⟩
  · simp at hl
  rcases l with _ | ⟨c2, l⟩
  · simp at hl
  rcases l with _ | ⟨c3, l⟩
  · simp at hl
  rcases l with _ | ⟨c4, l⟩
  · simp at hl
  rcases l with _ | ⟨c5, l⟩
  · simp at hl
  rcases l with _ | ⟨c6, l⟩
  · simp at hl
  rcases l with _ | ⟨c7, l⟩
  · simp at hl
  rcases l with _ | ⟨c8, l⟩
  · simp at hl
  rcases l with _ | ⟨c9, l⟩
  · simp at hl
  rcases l with _ | ⟨c10, l⟩
  · simp at hl
  rcases l with _ | ⟨c11, l⟩
  · simp at hl
  rcases l with _ | ⟨c12, l⟩
  · simp at hl
  rcases l with _ | ⟨c13, l⟩
  · simp at hl
  rcases l with _ | ⟨c14, l⟩
  · simp at hl
  rcases l with _ | ⟨c15, l⟩
  · simp at hl
  rcases l with _ | ⟨x, l⟩
  case cons => simp at hl
  obtain ⟨x0, rfl, k0⟩ := cell_int Tryz.underlying2 (hc 0 _ _ rfl rfl)
  obtain ⟨x1, rfl, k1⟩ := cell_int Tryz.underlying22 (hc 1 _ _ rfl rfl)
  obtain ⟨x2, rfl, k2⟩ := cell_int Tryz.underlying2 (hc 2 _ _ rfl rfl)
  obtain ⟨x3, rfl, k3⟩ := cell_int Tryz.underlying22 (hc 3 _ _ rfl rfl)
  obtain ⟨x4, rfl, k4⟩ := cell_int Tryz.underlying2 (hc 4 _ _ rfl rfl)
  obtain ⟨x5, rfl, k5⟩ := cell_int Tryz.underlying22 (hc 5 _ _ rfl rfl)
  obtain ⟨x6, rfl, k6⟩ := cell_int Tryz.underlying2 (hc 6 _ _ rfl rfl)
  obtain ⟨x7, rfl, k7⟩ := cell_int Tryz.underlying22 (hc 7 _ _ rfl rfl)
  obtain ⟨x8, rfl, k8⟩ := cell_int Tryz.underlying2 (hc 8 _ _ rfl rfl)
  obtain ⟨x9, rfl, k9⟩ := cell_int Tryz.underlying22 (hc 9 _ _ rfl rfl)
  obtain ⟨x10, rfl, k10⟩ := cell_int Tryz.underlying2 (hc 10 _ _ rfl rfl)
  obtain ⟨x11, rfl, k11⟩ := cell_int Tryz.underlying22 (hc 11 _ _ rfl rfl)
  obtain ⟨x12, rfl, k12⟩ := cell_int Tryz.underlying2 (hc 12 _ _ rfl rfl)
  obtain ⟨x13, rfl, k13⟩ := cell_int Tryz.underlying22 (hc 13 _ _ rfl rfl)
  obtain ⟨x14, rfl, k14⟩ := cell_int Tryz.underlying2 (hc 14 _ _ rfl rfl)
  obtain ⟨x15, rfl, k15⟩ := cell_int Tryz.underlying22 (hc 15 _ _ rfl rfl)
  simp [IntKind.has, IntKind.min, IntKind.max, IntKind.bits, IntKind.signed] at k0 k1 k2 k3 k4 k5 k6 k7 k8 k9 k10 k11 k12 k13 k14 k15
  exact ⟨x0, x1, x2, x3, x4, x5, x6, x7, x8, x9, x10, x11, x12, x13, x14, x15, rfl, by omega, by omega, by omega, by omega, by omega, by omega, by omega, by omega, by omega, by omega, by omega, by omega, by omega, by omega, by omega, by omega, by omega, by omega, by omega, by omega, by omega, by omega, by omega, by omega, by omega, by omega, by omega, by omega, by omega, by omega, by omega, by omega⟩
end Go.Proofs.YtobojnodohjiaaaGreatDoor
