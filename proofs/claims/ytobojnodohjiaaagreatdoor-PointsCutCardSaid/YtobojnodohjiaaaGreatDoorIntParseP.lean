
/- The decimal form of integers, plain: what ints.Parse and its reference return; Parse inverts Text. -/
import Derived.Test.YtobojnodohjiaaaGreatDoorRefV2
import Derived.Test.YtobojnodohjiaaaGreatDoorPJ
import Derived.Test.YtobojnodohjiaaaGreatDoorRefK
import Derived.Test.YtobojnodohjiaaaGreatDoorPI
import Derived.Test.YtobojnodohjiaaaGreatDoorPE
import Derived.Test.YtobojnodohjiaaaGreatDoorPP
import Derived.Test.YtobojnodohjiaaaGreatDoorRefL
import Derived.Lib.Strings
set_option linter.unusedVariables false
set_option linter.unusedSimpArgs false
/- ints.Text and gussetref02.Text: the decimal form, with a sign ahead for a negative integer. -/
namespace Go.Proofs.YtobojnodohjiaaaGreatDoor
open Go.RowKit
def itx (a : Int) : ByteArray := if a < 0 then (⟨#[45]⟩ : ByteArray) ++ ⟨(Lib.decDigits a.natAbs).toArray⟩ else ⟨(Lib.decDigits a.natAbs).toArray⟩
set_option maxHeartbeats 1000000 in
theorem itext_any (a : Int) (w : World) (ha : wl a.natAbs ≤ 900000) (HT : Hid (Tab w)) :
    Calls Tryz.prog 141 #[(Value.agg #[.int .u64 ((lo (Int.natAbs (a)) : Nat) : Int), .string (bg (Int.natAbs (a))), .bool (decide ((a) < 0))])] w fun e w' => e = .returned (.string (itx a)) ∧ Below w.heap.size w w' := by
  by_cases hn : a < 0
  · have HS1 : Hid (decide (a < 0) = true) := decide_eq_true hn
    have HSG : Hid (itx a = (⟨#[45]⟩ : ByteArray) ++ ⟨(Lib.decDigits a.natAbs).toArray⟩) := if_pos hn
    clear hn
    rw [HSG.out, HS1.out]
    obtain ⟨W0, HW⟩ : ∃ W0, Hid ((w.alloc (.cells #[.int .u64 ((lo (a.natAbs) : Nat) : Int), .string (bg (a.natAbs)), .bool true] 34)) = W0) := ⟨_, Lib.hid rfl⟩
    have HS := Lib.hid (show w.heap.size + 1 = W0.heap.size by rw [← HW.out]; simp)
    have z0 : w.heap.size < W0.heap.size := by rw [← HS.out]; omega
    have c0_0 : W0.cell? ⟨w.heap.size, 0, none⟩ = some (.int .u64 ((lo (a.natAbs) : Nat) : Int)) := by rw [← HW.out]; simp [go_sem]
    have c0_1 : W0.cell? ⟨w.heap.size, 1, none⟩ = some (.string (bg (a.natAbs))) := by rw [← HW.out]; simp [go_sem]
    have c0_2 : W0.cell? ⟨w.heap.size, 2, none⟩ = some (.bool true) := by rw [← HW.out]; simp [go_sem]
    have f_0 : W0.frozen? ⟨w.heap.size, 0, none⟩ = false := by rw [← HW.out]; simp [go_sem]
    have f_1 : W0.frozen? ⟨w.heap.size, 1, none⟩ = false := by rw [← HW.out]; simp [go_sem]
    have f_2 : W0.frozen? ⟨w.heap.size, 2, none⟩ = false := by rw [← HW.out]; simp [go_sem]
    have hbw : Below w.heap.size w W0 := by rw [← HW.out]; exact (Below.refl _ _).alloc (Nat.le_refl _) _
    have HR : Hid (∀ w1 : World, Below W0.heap.size W0 w1 → w1.cell? ⟨w.heap.size, 0, none⟩ = some (.int .u64 ((lo (a.natAbs) : Nat) : Int)) ∧ w1.cell? ⟨w.heap.size, 1, none⟩ = some (.string (bg (a.natAbs))) ∧ w1.cell? ⟨w.heap.size, 2, none⟩ = some (.bool true) ∧ w1.frozen? ⟨w.heap.size, 0, none⟩ = false ∧ w1.frozen? ⟨w.heap.size, 1, none⟩ = false ∧ w1.frozen? ⟨w.heap.size, 2, none⟩ = false ∧ Below w.heap.size w w1) := fun w1 hb => ⟨(held W0 w1 hb _ _ z0).trans c0_0, (held W0 w1 hb _ _ z0).trans c0_1, (held W0 w1 hb _ _ z0).trans c0_2, (heldf W0 w1 hb _ _ z0).trans f_0, (heldf W0 w1 hb _ _ z0).trans f_1, (heldf W0 w1 hb _ _ z0).trans f_2, grow hbw hb⟩
    have HBW := Lib.hid hbw
    clear hbw
    have hlen : ¬ (9223372036854775807 < 1 + (Lib.decDigits a.natAbs).length) := by rw [Lib.decDigits_length]; have := nDigits_nb a.natAbs; have := nb_wl a.natAbs; omega
    go_enter Tryz.func141, Tryz.ntmps141
    go_wp2_with fail
    rw [HW.out]
    refine (text_any a.natAbs _ (by omega) (Lib.hid (HT.out.gr HBW.out))).mono ?_
    rintro e w1 ⟨rfl, hb1⟩
    clear c0_0 c0_1 c0_2 f_0 f_1 f_2 HBW; obtain ⟨c0_0, c0_1, c0_2, f_0, f_1, f_2, hbw⟩ := HR.out w1 (hb1); have HBW := Lib.hid hbw; clear hbw
    go_wp2_with fail
    go_ret
    exact ⟨rfl, HBW.out⟩
  · have HS1 : Hid (decide (a < 0) = false) := decide_eq_false hn
    have HSG : Hid (itx a = ⟨(Lib.decDigits a.natAbs).toArray⟩) := if_neg hn
    clear hn
    rw [HSG.out, HS1.out]
    obtain ⟨W0, HW⟩ : ∃ W0, Hid ((w.alloc (.cells #[.int .u64 ((lo (a.natAbs) : Nat) : Int), .string (bg (a.natAbs)), .bool false] 34)) = W0) := ⟨_, Lib.hid rfl⟩
    have HS := Lib.hid (show w.heap.size + 1 = W0.heap.size by rw [← HW.out]; simp)
    have z0 : w.heap.size < W0.heap.size := by rw [← HS.out]; omega
    have c0_0 : W0.cell? ⟨w.heap.size, 0, none⟩ = some (.int .u64 ((lo (a.natAbs) : Nat) : Int)) := by rw [← HW.out]; simp [go_sem]
    have c0_1 : W0.cell? ⟨w.heap.size, 1, none⟩ = some (.string (bg (a.natAbs))) := by rw [← HW.out]; simp [go_sem]
    have c0_2 : W0.cell? ⟨w.heap.size, 2, none⟩ = some (.bool false) := by rw [← HW.out]; simp [go_sem]
    have f_0 : W0.frozen? ⟨w.heap.size, 0, none⟩ = false := by rw [← HW.out]; simp [go_sem]
    have f_1 : W0.frozen? ⟨w.heap.size, 1, none⟩ = false := by rw [← HW.out]; simp [go_sem]
    have f_2 : W0.frozen? ⟨w.heap.size, 2, none⟩ = false := by rw [← HW.out]; simp [go_sem]
    have hbw : Below w.heap.size w W0 := by rw [← HW.out]; exact (Below.refl _ _).alloc (Nat.le_refl _) _
    have HR : Hid (∀ w1 : World, Below W0.heap.size W0 w1 → w1.cell? ⟨w.heap.size, 0, none⟩ = some (.int .u64 ((lo (a.natAbs) : Nat) : Int)) ∧ w1.cell? ⟨w.heap.size, 1, none⟩ = some (.string (bg (a.natAbs))) ∧ w1.cell? ⟨w.heap.size, 2, none⟩ = some (.bool false) ∧ w1.frozen? ⟨w.heap.size, 0, none⟩ = false ∧ w1.frozen? ⟨w.heap.size, 1, none⟩ = false ∧ w1.frozen? ⟨w.heap.size, 2, none⟩ = false ∧ Below w.heap.size w w1) := fun w1 hb => ⟨(held W0 w1 hb _ _ z0).trans c0_0, (held W0 w1 hb _ _ z0).trans c0_1, (held W0 w1 hb _ _ z0).trans c0_2, (heldf W0 w1 hb _ _ z0).trans f_0, (heldf W0 w1 hb _ _ z0).trans f_1, (heldf W0 w1 hb _ _ z0).trans f_2, grow hbw hb⟩
    have HBW := Lib.hid hbw
    clear hbw
    go_enter Tryz.func141, Tryz.ntmps141
    go_wp2_with fail
    rw [HW.out]
    refine (text_any a.natAbs _ (by omega) (Lib.hid (HT.out.gr HBW.out))).mono ?_
    rintro e w1 ⟨rfl, hb1⟩
    clear c0_0 c0_1 c0_2 f_0 f_1 f_2 HBW; obtain ⟨c0_0, c0_1, c0_2, f_0, f_1, f_2, hbw⟩ := HR.out w1 (hb1); have HBW := Lib.hid hbw; clear hbw
    go_wp2_with fail
    go_ret
    exact ⟨rfl, HBW.out⟩
set_option maxHeartbeats 1000000 in
theorem rtextZ_any (a : Int) (v : Value) (w : World) (hv : Rn w v a.natAbs) (hb : tw a.natAbs ≤ 10000000) :
    Calls Tryz.prog 143 #[.agg #[.bool (decide (a < 0)), v]] w fun e w' => e = .returned (.string (itx a)) ∧ Below w.heap.size w w' := by
  have HR := Lib.hid hv
  clear hv
  have HB0 : Hid (Below w.heap.size w (w.alloc (.cells #[.bool (decide (a < 0)), v] 45))) := Lib.hid ((Below.refl _ _).alloc (Nat.le_refl _) _)
  by_cases hn : a < 0
  · have HS1 : Hid (decide (a < 0) = true) := decide_eq_true hn
    have HSG : Hid (itx a = (⟨#[45]⟩ : ByteArray) ++ ⟨(Lib.decDigits a.natAbs).toArray⟩) := if_pos hn
    clear hn
    rw [HSG.out]
    rw [HS1.out] at HB0 ⊢
    have hlen : ¬ (9223372036854775807 < 1 + (Lib.decDigits a.natAbs).length) := by rw [Lib.decDigits_length]; have := nDigits_nb a.natAbs; have := nb_tw a.natAbs; omega
    go_enter Tryz.func143, Tryz.ntmps143
    go_wp2_with fail
    refine (rtext_any v a.natAbs _ (HR.out.gr HB0.out) hb).mono ?_
    rintro e w2 ⟨rfl, hb2⟩
    have HB2 : Hid (Gr w w2) := Lib.hid (Gr.trans HB0.out hb2)
    clear hb2
    go_wp2_with fail
    go_ret
    exact ⟨rfl, HB2.out⟩
  · have HS1 : Hid (decide (a < 0) = false) := decide_eq_false hn
    have HSG : Hid (itx a = ⟨(Lib.decDigits a.natAbs).toArray⟩) := if_neg hn
    clear hn
    rw [HSG.out]
    rw [HS1.out] at HB0 ⊢
    go_enter Tryz.func143, Tryz.ntmps143
    go_wp2_with fail
    refine (rtext_any v a.natAbs _ (HR.out.gr HB0.out) hb).mono ?_
    rintro e w2 ⟨rfl, hb2⟩
    have HB2 : Hid (Gr w w2) := Lib.hid (Gr.trans HB0.out hb2)
    clear hb2
    go_wp2_with fail
    go_ret
    exact ⟨rfl, HB2.out⟩
end Go.Proofs.YtobojnodohjiaaaGreatDoor
/- texts of integers in z-form. -/
namespace Go.Proofs.YtobojnodohjiaaaGreatDoor
open Go.RowKit
attribute [local go_sem ↓] Go.wp_at_zero Go.wp_at_succ
theorem zitext (a : Int) (s : ByteArray) (w : World) (hs : itx a = s) (ha : wl a.natAbs ≤ 900000) (HT : Hid (Tab w)) :
    Calls Tryz.prog 141 #[(Value.agg #[.int .u64 ((lo (Int.natAbs (a)) : Nat) : Int), .string (bg (Int.natAbs (a))), .bool (decide ((a) < 0))])] w fun e w' => e = .returned (.string s) ∧ Below w.heap.size w w' := hs ▸ itext_any a w ha HT
theorem zrtextz (a : Int) (s : ByteArray) (v : Value) (w : World) (hs : itx a = s) (hv : Rn w v a.natAbs) (hb : tw a.natAbs ≤ 10000000) :
    Calls Tryz.prog 143 #[.agg #[.bool (decide (a < 0)), v]] w fun e w' => e = .returned (.string s) ∧ Below w.heap.size w w' := hs ▸ rtextZ_any a v w hv hb
end Go.Proofs.YtobojnodohjiaaaGreatDoor

set_option linter.unusedVariables false
set_option linter.unusedSimpArgs false
namespace Go.Proofs.YtobojnodohjiaaaGreatDoor
theorem size_mk (l : List UInt8) : (⟨l.toArray⟩ : ByteArray).size = l.length := by simp [ByteArray.size]
end Go.Proofs.YtobojnodohjiaaaGreatDoor

set_option linter.unusedVariables false
set_option linter.unusedSimpArgs false
namespace Go.Proofs.YtobojnodohjiaaaGreatDoor
open Go.RowKit
theorem itx_data (a : Int) : (itx a).data.toList = if a < 0 then 45 :: Lib.decDigits a.natAbs else Lib.decDigits a.natAbs := by
  unfold itx
  split <;> simp
theorem itx_size (a : Int) : (itx a).size = (if a < 0 then 1 else 0) + Lib.nDigits a.natAbs := by
  have h := congrArg List.length (itx_data a)
  have e : (itx a).size = (itx a).data.toList.length := Array.length_toList.symm
  rw [e, h]
  split
  · rw [List.length_cons, Lib.decDigits_length]; omega
  · rw [Lib.decDigits_length]; omega
end Go.Proofs.YtobojnodohjiaaaGreatDoor
