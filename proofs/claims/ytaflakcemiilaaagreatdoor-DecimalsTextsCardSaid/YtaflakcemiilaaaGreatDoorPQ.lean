/- A pack of texts: IntParse, IntParse2, ParseZ. No condition but those stated. -/
import Derived.Test.YtaflakcemiilaaaGreatDoorIntParseP
import Derived.Test.YtaflakcemiilaaaGreatDoorIntE
import Derived.Test.YtaflakcemiilaaaGreatDoorShelf
import Derived.Test.YtaflakcemiilaaaGreatDoorPJ
import Derived.Test.YtaflakcemiilaaaGreatDoorHp
set_option linter.unusedVariables false
set_option linter.unusedSimpArgs false
/- ints.Parse and gussetref02.Parse: the integer of a decimal form, the code. -/
namespace Go.Proofs.YtaflakcemiilaaaGreatDoor
open Go.RowKit
theorem lite_cut (s p : ByteArray) (w : World) :
    Calls Tryz.prog 232 #[.string s, .string p] w fun e w' => e = .returned (.tuple #[.string ⟨(Lib.trimPrefix s.data.toList p.data.toList).toArray⟩, .bool (Lib.hasPrefix s.data.toList p.data.toList)]) ∧ w' = w := by
  by_cases h : Lib.hasPrefix s.data.toList p.data.toList = true
  · have h0 := h
    rw [← Lib.hasPrefix_raw, Bool.and_eq_true, decide_eq_true_eq] at h0
    obtain ⟨h1, h2⟩ := h0
    rw [Lib.trimPrefix_hit s p h1 h2, h]
    have HP := Lib.hid h
    clear h h2
    go_enter Tryz.func232, Tryz.ntmps232
    go_wp2_with fail
    refine (Tryz.stringslite_HasPrefix s p w).mono ?_
    rintro e w1 ⟨rfl, rfl⟩
    rw [HP.out]
    go_wp2
    go_ret2
    exact ⟨rfl, rfl⟩
  · have h0 : Lib.hasPrefix s.data.toList p.data.toList = false := by simpa using h
    rw [Lib.trimPrefix_miss s p (by rw [Lib.hasPrefix_raw, h0]), h0]
    have HP := Lib.hid h0
    clear h h0
    go_enter Tryz.func232, Tryz.ntmps232
    go_wp2_with fail
    refine (Tryz.stringslite_HasPrefix s p w).mono ?_
    rintro e w1 ⟨rfl, rfl⟩
    rw [HP.out]
    go_wp2
    go_ret2
    exact ⟨rfl, rfl⟩
theorem cut_minus (s : ByteArray) (w : World) :
    Calls Tryz.prog 167 #[.string s, .string ⟨#[45]⟩] w fun e w' => e = .returned (.tuple #[.string (idig s), .bool (ineg s)]) ∧ w' = w := by
  go_enter Tryz.func167, Tryz.ntmps167
  go_wp2_with fail
  refine (lite_cut s _ w).mono ?_
  rintro e w1 ⟨rfl, rfl⟩
  go_wp2
  go_ret2
  exact ⟨rfl, rfl⟩
end Go.Proofs.YtaflakcemiilaaaGreatDoor
/- ints.Parse. -/
namespace Go.Proofs.YtaflakcemiilaaaGreatDoor
open Go.RowKit
attribute [local go_sem ↓] Go.wp_at_zero Go.wp_at_succ
attribute [local go_sem ↓] eq_nat eq_nat_zero eq_int
theorem cutm (s : ByteArray) (b : Bool) (w : World) (hb : ineg s = b) :
    Calls Tryz.prog 167 #[.string s, .string ⟨#[45]⟩] w fun e w' => e = .returned (.tuple #[.string (idig s), .bool b]) ∧ Below w.heap.size w w' := hb ▸ (cut_minus s w).mono fun e w' ⟨h, hw⟩ => ⟨h, by rw [hw]; exact Below.refl _ _⟩
theorem pnum_lt (s : ByteArray) (L : Nat) (hL : L = 4096) : pnum s < 10 ^ L := by
  unfold pnum
  split
  · rename_i h
    obtain ⟨h1, h2, h3, h4⟩ := h
    rw [pv_lv]
    have := lv_lt s.data.toList (fun c hc => by
      obtain ⟨i, hi, rfl⟩ := List.getElem_of_mem hc
      have hi' : i < s.size := by simpa using hi
      rw [← byt_list s i hi']
      exact (h4 i hi').2)
    refine Nat.lt_of_lt_of_le this (Nat.pow_le_pow_right (by decide) ?_)
    rw [Array.length_toList, hL]
    exact h1
  · exact Nat.pow_pos (by decide)
theorem ten_bp (k : Nat) : (10 : Nat) ^ (8 * k) ≤ bp k := by
  unfold bp
  rw [Nat.pow_mul]
  exact Nat.pow_le_pow_left (by decide) k
theorem pnum_bp (s : ByteArray) (k : Nat) (h : 8 * k = 4096) : pnum s < bp k := Nat.lt_of_lt_of_le (pnum_lt s _ h) (ten_bp k)
end Go.Proofs.YtaflakcemiilaaaGreatDoor
/- ints.Parse in z-form. -/
namespace Go.Proofs.YtaflakcemiilaaaGreatDoor
open Go.RowKit
attribute [local go_sem ↓] Go.wp_at_zero Go.wp_at_succ
end Go.Proofs.YtaflakcemiilaaaGreatDoor
