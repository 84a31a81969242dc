/- A pack of texts: CutS, FParse. No condition but those stated. -/
import Derived.Test.YtobojnodohjiaaaGreatDoorHp
import Derived.Test.YtobojnodohjiaaaGreatDoorFieldP
import Derived.Test.YtobojnodohjiaaaGreatDoorShelf
import Derived.Lib.IndexLaws
import Derived.Test.YtobojnodohjiaaaGreatDoorIntE
import Derived.Test.YtobojnodohjiaaaGreatDoorPJ
import Derived.Test.YtobojnodohjiaaaGreatDoorPV
namespace Go.Proofs.YtobojnodohjiaaaGreatDoor
open Go.RowKit
set_option linter.unusedSimpArgs false
set_option linter.unusedVariables false
/-- where the first point lies, or -1 -/
def di (s : ByteArray) : Int := Lib.indexByte s.data.toList 46
def dup (s : ByteArray) : ByteArray := if 0 ≤ di s then s.extract 0 (di s).toNat else s
def ddn (s : ByteArray) : ByteArray := if 0 ≤ di s then s.extract ((di s).toNat + 1) s.size else ⟨#[]⟩
def dtwo (s : ByteArray) : Bool := decide (0 ≤ di s)
theorem di_cases (s : ByteArray) : di s = -1 ∨ ∃ i : Nat, di s = (i : Int) ∧ i < s.size := by
  have h := Lib.indexByte_ge s.data.toList 46
  by_cases e : di s = -1
  · exact .inl e
  · obtain ⟨i, hi⟩ : ∃ i : Nat, di s = (i : Int) := ⟨(di s).toNat, by unfold di at *; omega⟩
    have h2 := (Lib.indexByte_some hi).1
    refine .inr ⟨i, hi, ?_⟩
    have h3 := (List.getElem?_eq_some_iff.1 h2).1
    simpa using h3
theorem dup_size (s : ByteArray) : (dup s).size ≤ s.size := by
  unfold dup; split
  · simp; omega
  · exact Nat.le_refl _
theorem ddn_size (s : ByteArray) : (ddn s).size ≤ s.size := by
  unfold ddn; split
  · simp
  · exact Nat.zero_le _
theorem liteD_cut (s : ByteArray) (w : World) (hs : s.size ≤ 9223372036854775807) :
    Calls Tryz.prog 236 #[.string s, .string ⟨#[46]⟩] w fun e w' => e = .returned (.tuple #[.string (dup s), .string (ddn s), .bool (dtwo s)]) ∧ Below w.heap.size w w' := by
  rcases di_cases s with h | ⟨i, h, hi⟩
  · have e1 : dup s = s := by unfold dup; rw [if_neg (by omega)]
    have e2 : ddn s = ⟨#[]⟩ := by unfold ddn; rw [if_neg (by omega)]
    have e3 : dtwo s = false := decide_eq_false (by omega)
    rw [e1, e2, e3]
    have H := Lib.hid h
    clear h e1 e2 e3
    go_enter Tryz.func236, Tryz.ntmps236
    go_wp2_with fail
    refine (Tryz.stringslite_Index_one s 46 w).mono ?_
    rintro e w1 ⟨rfl, rfl⟩
    have h2 : Lib.indexByte s.data.toList 46 = -1 := H.out
    rw [h2]
    go_wp2
    exact bodyPost_ret (v := .tuple #[.string s, .string ⟨#[]⟩, .bool false]) (by simp [results, Tryz.results236, go_sem]) rfl ⟨rfl, Below.refl _ _⟩
  · have e1 : dup s = s.extract 0 i := by unfold dup; rw [if_pos (by omega), h]; rfl
    have e2 : ddn s = s.extract (i + 1) s.size := by unfold ddn; rw [if_pos (by omega), h]; rfl
    have e3 : dtwo s = true := decide_eq_true (by omega)
    rw [e1, e2, e3]
    have H := Lib.hid h
    clear h e1 e2 e3
    go_enter Tryz.func236, Tryz.ntmps236
    go_wp2_with fail
    refine (Tryz.stringslite_Index_one s 46 w).mono ?_
    rintro e w1 ⟨rfl, rfl⟩
    have h2 : Lib.indexByte s.data.toList 46 = (i : Int) := H.out
    rw [h2]
    have hw1 : IntKind.i64.wrap ((i : Int) + 1) = ((i + 1 : Nat) : Int) := by rw [IntKind.wrap_i64]; omega
    have hle : (i : Int) ≤ (s.size : Int) := by omega
    have hle2 : ((i + 1 : Nat) : Int) ≤ (s.size : Int) := by omega
    go_wp2
    go_region
    go_wp2
    exact bodyPost_ret (v := .tuple #[.string (s.extract 0 i), .string (s.extract (i + 1) s.size), .bool true]) (by simp [results, Tryz.results236, go_sem]) rfl ⟨rfl, (Below.refl _ _).drew⟩
theorem dcut_any (s : ByteArray) (w : World) (hs : s.size ≤ 9223372036854775807) :
    Calls Tryz.prog 162 #[.string s, .string ⟨#[46]⟩] w fun e w' => e = .returned (.tuple #[.string (dup s), .string (ddn s), .bool (dtwo s)]) ∧ Below w.heap.size w w' := by
  go_enter Tryz.func162, Tryz.ntmps162
  go_wp2_with fail
  refine (liteD_cut s w hs).mono ?_
  rintro e w1 ⟨rfl, hb⟩
  have HB := Lib.hid hb
  clear hb
  go_wp2
  exact bodyPost_ret (v := .tuple #[.string (dup s), .string (ddn s), .bool (dtwo s)]) (by simp [results, Tryz.results162, go_sem]) rfl ⟨rfl, HB.out⟩
end Go.Proofs.YtobojnodohjiaaaGreatDoor

set_option linter.unusedVariables false
set_option linter.unusedSimpArgs false

/- ints.Parse and gussetref02.Parse: the integer of a decimal form, the code. -/
namespace Go.Proofs.YtobojnodohjiaaaGreatDoor
open Go.RowKit
set_option linter.unusedSimpArgs false
set_option linter.unusedVariables false
theorem lite_cut (s p : ByteArray) (w : World) :
    Calls Tryz.prog 235 #[.string s, .string p] w fun e w' => e = .returned (.tuple #[.string ⟨(Lib.trimPrefix s.data.toList p.data.toList).toArray⟩, .bool (Lib.hasPrefix s.data.toList p.data.toList)]) ∧ w' = w := by
  by_cases h : Lib.hasPrefix s.data.toList p.data.toList = true
  · have h0 := h
    rw [← Lib.hasPrefix_raw, Bool.and_eq_true, decide_eq_true_eq] at h0
    obtain ⟨h1, h2⟩ := h0
    rw [Lib.trimPrefix_hit s p h1 h2, h]
    have HP := Lib.hid h
    clear h h2
    go_enter Tryz.func235, Tryz.ntmps235
    go_wp2_with fail
    refine (Tryz.stringslite_HasPrefix s p w).mono ?_
    rintro e w1 ⟨rfl, rfl⟩
    rw [HP.out]
    go_wp2
    go_ret2
    exact ⟨rfl, rfl⟩
  · have h0 : Lib.hasPrefix s.data.toList p.data.toList = false := by simpa using h
    rw [Lib.trimPrefix_miss s p (by rw [Lib.hasPrefix_raw, h0]), h0]
    have HP := Lib.hid h0
    clear h h0
    go_enter Tryz.func235, Tryz.ntmps235
    go_wp2_with fail
    refine (Tryz.stringslite_HasPrefix s p w).mono ?_
    rintro e w1 ⟨rfl, rfl⟩
    rw [HP.out]
    go_wp2
    go_ret2
    exact ⟨rfl, rfl⟩
theorem cut_minus (s : ByteArray) (w : World) :
    Calls Tryz.prog 161 #[.string s, .string ⟨#[45]⟩] w fun e w' => e = .returned (.tuple #[.string (idig s), .bool (ineg s)]) ∧ w' = w := by
  go_enter Tryz.func161, Tryz.ntmps161
  go_wp2_with fail
  refine (lite_cut s _ w).mono ?_
  rintro e w1 ⟨rfl, rfl⟩
  go_wp2
  go_ret2
  exact ⟨rfl, rfl⟩
end Go.Proofs.YtobojnodohjiaaaGreatDoor


/- ints.Parse. -/
namespace Go.Proofs.YtobojnodohjiaaaGreatDoor
open Go.RowKit
set_option linter.unusedSimpArgs false
set_option linter.unusedVariables false
attribute [local go_sem ↓] Go.wp_at_zero Go.wp_at_succ
attribute [local go_sem ↓] eq_nat eq_nat_zero eq_int
theorem cutm (s : ByteArray) (b : Bool) (w : World) (hb : ineg s = b) :
    Calls Tryz.prog 161 #[.string s, .string ⟨#[45]⟩] w fun e w' => e = .returned (.tuple #[.string (idig s), .bool b]) ∧ Below w.heap.size w w' := hb ▸ (cut_minus s w).mono fun e w' ⟨h, hw⟩ => ⟨h, by rw [hw]; exact Below.refl _ _⟩

theorem pnum_lt (s : ByteArray) (L : Nat) (hL : L = 4096) : pnum s < 10 ^ L := by
  unfold pnum
  split
  · rename_i h
    obtain ⟨h1, h2, h3, h4⟩ := h
    rw [pv_lv]
    have := lv_lt s.data.toList (fun c hc => by
      obtain ⟨i, hi, rfl⟩ := List.getElem_of_mem hc
      have hi' : i < s.size := by simpa using hi
      rw [← byt_list s i hi']
      exact (h4 i hi').2)
    refine Nat.lt_of_lt_of_le this (Nat.pow_le_pow_right (by decide) ?_)
    rw [Array.length_toList, hL]
    exact h1
  · exact Nat.pow_pos (by decide)
theorem ten_bp (k : Nat) : (10 : Nat) ^ (8 * k) ≤ bp k := by
  unfold bp
  rw [Nat.pow_mul]
  exact Nat.pow_le_pow_left (by decide) k
theorem pnum_bp (s : ByteArray) (k : Nat) (h : 8 * k = 4096) : pnum s < bp k := Nat.lt_of_lt_of_le (pnum_lt s _ h) (ten_bp k)

end Go.Proofs.YtobojnodohjiaaaGreatDoor


/- ints.Parse in z-form. -/
namespace Go.Proofs.YtobojnodohjiaaaGreatDoor
open Go.RowKit
set_option linter.unusedSimpArgs false
set_option linter.unusedVariables false
attribute [local go_sem ↓] Go.wp_at_zero Go.wp_at_succ
end Go.Proofs.YtobojnodohjiaaaGreatDoor

set_option linter.unusedVariables false
set_option linter.unusedSimpArgs false

/- strings.Cut at "/", and its plain part. No condition but those stated. -/
namespace Go.Proofs.YtobojnodohjiaaaGreatDoor
open Go.RowKit
set_option linter.unusedSimpArgs false
set_option linter.unusedVariables false
end Go.Proofs.YtobojnodohjiaaaGreatDoor


/- fracs.Parse. -/
namespace Go.Proofs.YtobojnodohjiaaaGreatDoor
open Go.RowKit
set_option linter.unusedSimpArgs false
set_option linter.unusedVariables false
attribute [local go_sem ↓] Go.wp_at_zero Go.wp_at_succ
attribute [local go_sem ↓] eq_nat eq_nat_zero eq_int
end Go.Proofs.YtobojnodohjiaaaGreatDoor
