
/- ints.Parse and gussetref02.Parse: the integer of a decimal form, the code. -/
import Derived.Test.YtflhpdlecpehkaaDoorIntParseP
import Derived.Test.YtflhpdlecpehkaaDoorIntE
import Derived.Test.YtflhpdlecpehkaaDoorShelf
namespace Go.Proofs.YtflhpdlecpehkaaDoor
open Go.RowKit
set_option linter.unusedSimpArgs false
set_option linter.unusedVariables false
theorem lite_cut (s p : ByteArray) (w : World) :
    Calls Tryd.prog 52 #[.string s, .string p] w fun e w' => e = .returned (.tuple #[.string ⟨(Lib.trimPrefix s.data.toList p.data.toList).toArray⟩, .bool (Lib.hasPrefix s.data.toList p.data.toList)]) ∧ w' = w := by
  by_cases h : Lib.hasPrefix s.data.toList p.data.toList = true
  · have h0 := h
    rw [← Lib.hasPrefix_raw, Bool.and_eq_true, decide_eq_true_eq] at h0
    obtain ⟨h1, h2⟩ := h0
    rw [Lib.trimPrefix_hit s p h1 h2, h]
    have HP := Lib.hid h
    clear h h2
    go_enter Tryd.func52, Tryd.ntmps52
    go_wp2_with fail
    refine (Tryd.stringslite_HasPrefix s p w).mono ?_
    rintro e w1 ⟨rfl, rfl⟩
    rw [HP.out]
    go_wp2
    go_ret2
    exact ⟨rfl, rfl⟩
  · have h0 : Lib.hasPrefix s.data.toList p.data.toList = false := by simpa using h
    rw [Lib.trimPrefix_miss s p (by rw [Lib.hasPrefix_raw, h0]), h0]
    have HP := Lib.hid h0
    clear h h0
    go_enter Tryd.func52, Tryd.ntmps52
    go_wp2_with fail
    refine (Tryd.stringslite_HasPrefix s p w).mono ?_
    rintro e w1 ⟨rfl, rfl⟩
    rw [HP.out]
    go_wp2
    go_ret2
    exact ⟨rfl, rfl⟩
theorem cut_minus (s : ByteArray) (w : World) :
    Calls Tryd.prog 30 #[.string s, .string ⟨#[45]⟩] w fun e w' => e = .returned (.tuple #[.string (idig s), .bool (ineg s)]) ∧ w' = w := by
  go_enter Tryd.func30, Tryd.ntmps30
  go_wp2_with fail
  refine (lite_cut s _ w).mono ?_
  rintro e w1 ⟨rfl, rfl⟩
  go_wp2
  go_ret2
  exact ⟨rfl, rfl⟩
end Go.Proofs.YtflhpdlecpehkaaDoor
