
/- IntsSmall: the law's walk. -/
import Derived.Test.YtflhpdlecpehkaaDoorSmallA
import Derived.Test.YtflhpdlecpehkaaDoorSmallB
import Derived.Test.YtflhpdlecpehkaaDoorSmallC
namespace Go.Proofs.YtflhpdlecpehkaaDoor
open Go.RowKit
set_option linter.unusedSimpArgs false
set_option linter.unusedVariables false
attribute [local go_sem ↓] Go.wp_at_zero Go.wp_at_succ
theorem smallz_law (m n : Int) (w : World) (lm : -9223372036854775808 ≤ m) (um : m ≤ 9223372036854775807) (ln : -9223372036854775808 ≤ n) (un : n ≤ 9223372036854775807) (HT : Hid (Tab w)) :
    Calls Tryd.prog 7 #[.int .i64 m, .int .i64 n] w fun e w' => e = .returned (.bool true) ∧ Below w.heap.size w w' := by
  obtain ⟨s1, o1, hs1⟩ := sym_ex (m + n)
  obtain ⟨s2, o2, hs2⟩ := sym_ex (m * n)
  have hx : (IntKind.i64.wrap (m + n) = m + n ∧ -9223372036854775808 ≤ m + n ∧ m + n ≤ 9223372036854775807) ∨ (IntKind.i64.wrap (m + n) = m + n - 18446744073709551616 ∧ 9223372036854775807 < m + n) ∨ (IntKind.i64.wrap (m + n) = m + n + 18446744073709551616 ∧ m + n < -9223372036854775808) := by
    rw [IntKind.wrap_i64]; omega
  have hy : IntKind.i64.wrap (m * n) = m * n ∨ m * n < -9223372036854775808 ∨ 9223372036854775807 < m * n := by
    generalize m * n = z
    rw [IntKind.wrap_i64]; omega
  have hsm : m ≤ -2147483648 ∨ 2147483648 ≤ m ∨ n ≤ -2147483648 ∨ 2147483648 ≤ n ∨ (-9223372036854775808 ≤ m * n ∧ m * n ≤ 9223372036854775807) := by
    by_cases h : -2147483648 < m ∧ m < 2147483648 ∧ -2147483648 < n ∧ n < 2147483648
    · exact .inr (.inr (.inr (.inr (imul_small h.1 h.2.1 h.2.2.1 h.2.2.2))))
    · omega
  by_cases hn : n = 0
  · exact smz_zero m n _ _ s1 s2 _ _ _ o1 o2 _ _ w (Lib.hid lm) (Lib.hid um) (Lib.hid ln) (Lib.hid un) (Lib.hid rfl) (Lib.hid rfl) (Lib.hid hs1) (Lib.hid hs2) (Lib.hid rfl) (Lib.hid hx) (Lib.hid rfl) (Lib.hid hy) (Lib.hid hsm) (Lib.hid rfl) (Lib.hid rfl) (Lib.hid rfl) (Lib.hid hn) HT
  · have hm := mod_abs m hn
    have hqr := idv0 m n
    have hri : In64 (m % n) := ⟨by omega, by omega⟩
    by_cases hq : In64 (m / n)
    · exact smz_in m n _ _ s1 s2 _ _ _ o1 o2 _ _ _ _ _ w (Lib.hid lm) (Lib.hid um) (Lib.hid ln) (Lib.hid un) (Lib.hid rfl) (Lib.hid rfl) (Lib.hid hs1) (Lib.hid hs2) (Lib.hid rfl) (Lib.hid hx) (Lib.hid rfl) (Lib.hid hy) (Lib.hid hsm) (Lib.hid rfl) (Lib.hid rfl) (Lib.hid rfl) (Lib.hid hn) (Lib.hid rfl) (Lib.hid rfl) (Lib.hid hm.2) (Lib.hid hri) (Lib.hid hq) (Lib.hid rfl) (Lib.hid (wrap_back m (m / n) n (m % n) hqr lm um)) HT
    · have hmn : m = -9223372036854775808 ∧ n = -1 := quot_far lm um hn hq
      exact smz_out m n _ _ s1 s2 _ _ _ o1 o2 _ _ _ _ w (Lib.hid lm) (Lib.hid um) (Lib.hid ln) (Lib.hid un) (Lib.hid rfl) (Lib.hid rfl) (Lib.hid hs1) (Lib.hid hs2) (Lib.hid rfl) (Lib.hid hx) (Lib.hid rfl) (Lib.hid hy) (Lib.hid hsm) (Lib.hid rfl) (Lib.hid rfl) (Lib.hid rfl) (Lib.hid hn) (Lib.hid rfl) (Lib.hid rfl) (Lib.hid hm.2) (Lib.hid hri) (Lib.hid hq) (Lib.hid hmn.1) (Lib.hid hmn.2) HT

end Go.Proofs.YtflhpdlecpehkaaDoor
