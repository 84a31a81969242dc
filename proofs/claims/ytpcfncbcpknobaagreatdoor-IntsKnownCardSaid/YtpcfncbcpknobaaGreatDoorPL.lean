/- A pack of texts: Low, Frac1, Frac2, Frac3, QOf, POf. No condition but those stated. -/
import Derived.Test.YtpcfncbcpknobaaGreatDoorIntZ
import Derived.Test.YtpcfncbcpknobaaGreatDoorHp
set_option linter.unusedVariables false
set_option linter.unusedSimpArgs false

/- fracs.lowest. -/
namespace Go.Proofs.YtpcfncbcpknobaaGreatDoor
open Go.RowKit
set_option linter.unusedSimpArgs false
set_option linter.unusedVariables false
attribute [local go_sem ↓] Go.wp_at_zero Go.wp_at_succ
end Go.Proofs.YtpcfncbcpknobaaGreatDoor


/- fracs: den, signed, whole, Whole, Sign, Neg. -/
namespace Go.Proofs.YtpcfncbcpknobaaGreatDoor
open Go.RowKit
set_option linter.unusedSimpArgs false
set_option linter.unusedVariables false
attribute [local go_sem ↓] Go.wp_at_zero Go.wp_at_succ
attribute [local go_sem ↓] eq_nat eq_nat_zero
end Go.Proofs.YtpcfncbcpknobaaGreatDoor


/- fracs: Int, Add, Mul, Sub. -/
namespace Go.Proofs.YtpcfncbcpknobaaGreatDoor
open Go.RowKit
set_option linter.unusedSimpArgs false
set_option linter.unusedVariables false
attribute [local go_sem ↓] Go.wp_at_zero Go.wp_at_succ
attribute [local go_sem ↓] eq_nat eq_nat_zero
theorem iof_any (n : Int) (w : World) (h1 : -9223372036854775808 ≤ n) (h2 : n ≤ 9223372036854775807) :
    Calls Tryz.prog 93 #[.int .i64 n] w fun e w' => e = .returned (Value.agg #[.int .u64 ((lo (Int.natAbs (n)) : Nat) : Int), .string (bg (Int.natAbs (n))), .bool (decide ((n) < 0))]) ∧ Below w.heap.size w w' := by
  obtain ⟨W0, HW⟩ : ∃ W0, Hid ((w.alloc (.cells #[.int .u64 0, .string ⟨#[]⟩, .bool false] 38)) = W0) := ⟨_, Lib.hid rfl⟩
  have HS := Lib.hid (show w.heap.size + 1 = W0.heap.size by rw [← HW.out]; simp)
  have z0 : w.heap.size < W0.heap.size := by rw [← HS.out]; omega
  have c0_0 : W0.cell? ⟨w.heap.size, 0, none⟩ = some (.int .u64 0) := by rw [← HW.out]; simp [go_sem]
  have c0_1 : W0.cell? ⟨w.heap.size, 1, none⟩ = some (.string ⟨#[]⟩) := by rw [← HW.out]; simp [go_sem]
  have c0_2 : W0.cell? ⟨w.heap.size, 2, none⟩ = some (.bool false) := by rw [← HW.out]; simp [go_sem]
  have f_0 : W0.frozen? ⟨w.heap.size, 0, none⟩ = false := by rw [← HW.out]; simp [go_sem]
  have f_1 : W0.frozen? ⟨w.heap.size, 1, none⟩ = false := by rw [← HW.out]; simp [go_sem]
  have f_2 : W0.frozen? ⟨w.heap.size, 2, none⟩ = false := by rw [← HW.out]; simp [go_sem]
  have hbw : Below w.heap.size w W0 := by rw [← HW.out]; exact (Below.refl _ _).alloc (Nat.le_refl _) _
  have HR : Hid (∀ w1 : World, Below W0.heap.size W0 w1 → w1.cell? ⟨w.heap.size, 0, none⟩ = some (.int .u64 0) ∧ w1.cell? ⟨w.heap.size, 1, none⟩ = some (.string ⟨#[]⟩) ∧ w1.cell? ⟨w.heap.size, 2, none⟩ = some (.bool false) ∧ w1.frozen? ⟨w.heap.size, 0, none⟩ = false ∧ w1.frozen? ⟨w.heap.size, 1, none⟩ = false ∧ w1.frozen? ⟨w.heap.size, 2, none⟩ = false ∧ Below w.heap.size w w1) := fun w1 hb => ⟨(held W0 w1 hb _ _ z0).trans c0_0, (held W0 w1 hb _ _ z0).trans c0_1, (held W0 w1 hb _ _ z0).trans c0_2, (heldf W0 w1 hb _ _ z0).trans f_0, (heldf W0 w1 hb _ _ z0).trans f_1, (heldf W0 w1 hb _ _ z0).trans f_2, grow hbw hb⟩
  have HBW := Lib.hid hbw
  clear hbw
  by_cases hn : n < 0
  · have hd : decide (n < 0) = true := decide_eq_true hn
    obtain ⟨m, HM⟩ : ∃ m : Nat, Hid (n = -(m : Int)) := ⟨n.natAbs, Lib.hid (by omega)⟩
    have hm : m < 18446744073709551616 := by have := HM.out; omega
    have e0 : IntKind.u64.wrap (-IntKind.u64.wrap n) = (m : Int) := by rw [IntKind.wrap_u64, IntKind.wrap_u64, HM.out]; have := HM.out; omega
    have HZ : (if true then -((m : Nat) : Int) else ((m : Nat) : Int)) = n := by rw [HM.out]; rfl
    have H3 := Lib.hid HZ
    clear HZ
    clear hn
    go_enter Tryz.func93, Tryz.ntmps93
    go_wp2_with fail
    clear hd
    rw [HW.out]
    refine (zof m W0 hm).mono ?_
    rintro e w1 ⟨rfl, hb1⟩
    clear c0_0 c0_1 c0_2 f_0 f_1 f_2 HBW; obtain ⟨c0_0, c0_1, c0_2, f_0, f_1, f_2, hbw⟩ := HR.out w1 (hb1); have HBW := Lib.hid hbw; clear hbw
    have HB1 := Lib.hid hb1
    clear hb1
    go_wp2_with fail
    refine (from_any true m n w1 H3.out).mono ?_
    rintro e w2 ⟨rfl, hb2⟩
    clear c0_0 c0_1 c0_2 f_0 f_1 f_2 HBW; obtain ⟨c0_0, c0_1, c0_2, f_0, f_1, f_2, hbw⟩ := HR.out w2 (grow HB1.out hb2); have HBW := Lib.hid hbw; clear hbw
    clear hb2
    go_wp2_with fail
    exact bodyPost_ret (v := (Value.agg #[.int .u64 ((lo (Int.natAbs (n)) : Nat) : Int), .string (bg (Int.natAbs (n))), .bool (decide ((n) < 0))])) (by simp [results, Tryz.results93, go_sem, c0_0, c0_1, c0_2]) rfl ⟨rfl, by first | exact (((HBW.out).setCell (by show w.heap.size ≤ w.heap.size; omega) _).setCell (by show w.heap.size ≤ w.heap.size; omega) _).setCell (by show w.heap.size ≤ w.heap.size; omega) _ | exact ((((HBW.out).setCell (by show w.heap.size ≤ w.heap.size; omega) _).setCell (by show w.heap.size ≤ w.heap.size; omega) _).setCell (by show w.heap.size ≤ w.heap.size; omega) _).drew⟩
  · have hd : decide (n < 0) = false := decide_eq_false hn
    obtain ⟨m, HM⟩ : ∃ m : Nat, Hid (n = (m : Int)) := ⟨n.natAbs, Lib.hid (by omega)⟩
    have hm : m < 18446744073709551616 := by have := HM.out; omega
    have e0 : IntKind.u64.wrap n = (m : Int) := by rw [IntKind.wrap_u64]; have := HM.out; omega
    have H3 : Hid ((if false then -((m : Nat) : Int) else ((m : Nat) : Int)) = n) := by show _ = n; rw [HM.out]; rfl
    clear hn
    go_enter Tryz.func93, Tryz.ntmps93
    go_wp2_with fail
    clear hd
    rw [HW.out]
    refine (zof m W0 hm).mono ?_
    rintro e w1 ⟨rfl, hb1⟩
    clear c0_0 c0_1 c0_2 f_0 f_1 f_2 HBW; obtain ⟨c0_0, c0_1, c0_2, f_0, f_1, f_2, hbw⟩ := HR.out w1 (hb1); have HBW := Lib.hid hbw; clear hbw
    have HB1 := Lib.hid hb1
    clear hb1
    go_wp2_with fail
    refine (from_any false m n w1 H3.out).mono ?_
    rintro e w2 ⟨rfl, hb2⟩
    clear c0_0 c0_1 c0_2 f_0 f_1 f_2 HBW; obtain ⟨c0_0, c0_1, c0_2, f_0, f_1, f_2, hbw⟩ := HR.out w2 (grow HB1.out hb2); have HBW := Lib.hid hbw; clear hbw
    clear hb2
    go_wp2_with fail
    exact bodyPost_ret (v := (Value.agg #[.int .u64 ((lo (Int.natAbs (n)) : Nat) : Int), .string (bg (Int.natAbs (n))), .bool (decide ((n) < 0))])) (by simp [results, Tryz.results93, go_sem, c0_0, c0_1, c0_2]) rfl ⟨rfl, by first | exact (((HBW.out).setCell (by show w.heap.size ≤ w.heap.size; omega) _).setCell (by show w.heap.size ≤ w.heap.size; omega) _).setCell (by show w.heap.size ≤ w.heap.size; omega) _ | exact ((((HBW.out).setCell (by show w.heap.size ≤ w.heap.size; omega) _).setCell (by show w.heap.size ≤ w.heap.size; omega) _).setCell (by show w.heap.size ≤ w.heap.size; omega) _).drew⟩

end Go.Proofs.YtpcfncbcpknobaaGreatDoor


/- fracs: Cmp, Div, Of. -/
namespace Go.Proofs.YtpcfncbcpknobaaGreatDoor
open Go.RowKit
set_option linter.unusedSimpArgs false
set_option linter.unusedVariables false
attribute [local go_sem ↓] Go.wp_at_zero Go.wp_at_succ
attribute [local go_sem ↓] eq_nat eq_nat_zero
end Go.Proofs.YtpcfncbcpknobaaGreatDoor


/- gussetlaw03.Q.Of. -/
namespace Go.Proofs.YtpcfncbcpknobaaGreatDoor
open Go.RowKit
set_option linter.unusedSimpArgs false
set_option linter.unusedVariables false
attribute [local go_sem ↓] Go.wp_at_zero Go.wp_at_succ
end Go.Proofs.YtpcfncbcpknobaaGreatDoor


/- gussetlaw23.P.Of. -/
namespace Go.Proofs.YtpcfncbcpknobaaGreatDoor
open Go.RowKit
set_option linter.unusedSimpArgs false
set_option linter.unusedVariables false
attribute [local go_sem ↓] Go.wp_at_zero Go.wp_at_succ
end Go.Proofs.YtpcfncbcpknobaaGreatDoor
