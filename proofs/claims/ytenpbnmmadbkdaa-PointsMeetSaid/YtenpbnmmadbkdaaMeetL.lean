/- PointsMeet. -/
import Derived.Test.YtenpbnmmadbkdaaMeet
namespace Go.Proofs.Ytenpbnmmadbkdaa
open Go.RowKit
set_option linter.unusedSimpArgs false
set_option linter.unusedVariables false
attribute [local go_sem ↓] Go.wp_at_zero Go.wp_at_succ
/-- the last test of PointsMeet comes out true in each case -/
theorem meet_ways (A B C D : Rat × Rat) : let n := (cutV A B C D).1; let p := tn A B C * tn A B D; let q := tn C D A * tn C D B
    (n = 0 ∨ n = 1 ∨ n = 2) ∧ (0 < p → n = 0) ∧ (p < 0 → q < 0 → n = 1) := ⟨cut_bd A B C D, cut_off, cut_cross⟩
theorem meet_way (n p q : Int) (o1 o2 : Prop) (h1 : n = 0 ∨ n = 1 ∨ n = 2) (h2 : 0 < p → n = 0) (h3 : p < 0 → q < 0 → n = 1) (ho1 : n ≠ 0 → o1) (ho2 : n ≠ 0 → o2) :
    (decide (0 < n) = true ∧ Hid o1 ∧ Hid o2 ∧ Hid ((decide (0 ≤ p) = true ∧ decide (p ≤ 0) = true) ∨ (decide (0 ≤ p) = false ∧ decide (0 ≤ q) = true ∧ decide (p ≤ 0) = true) ∨ (decide (0 ≤ p) = false ∧ decide (0 ≤ q) = false ∧ (n == 1) = true ∧ decide (p ≤ 0) = true))) ∨ (decide (0 < n) = false ∧ Hid ((decide (0 ≤ p) = true ∧ decide (p ≤ 0) = true) ∨ (decide (0 ≤ p) = true ∧ decide (p ≤ 0) = false ∧ (n == 0) = true) ∨ (decide (0 ≤ p) = false ∧ decide (0 ≤ q) = true ∧ decide (p ≤ 0) = true))) := by
  have hp : p < 0 ∨ p = 0 ∨ 0 < p := by omega
  rcases h1 with rfl | rfl | rfl
  · refine .inr ⟨rfl, Lib.hid ?_⟩
    rcases hp with e | e | e
    · by_cases hq : q < 0
      · exact absurd (h3 e hq) (by decide)
      · exact .inr (.inr ⟨by simp; omega, by simp; omega, by simp; omega⟩)
    · exact .inl ⟨by simp; omega, by simp; omega⟩
    · exact .inr (.inl ⟨by simp; omega, by simp; omega, rfl⟩)
  · refine .inl ⟨rfl, Lib.hid (ho1 (by decide)), Lib.hid (ho2 (by decide)), Lib.hid ?_⟩
    rcases hp with e | e | e
    · by_cases hq : q < 0
      · exact .inr (.inr ⟨by simp; omega, by simp; omega, rfl, by simp; omega⟩)
      · exact .inr (.inl ⟨by simp; omega, by simp; omega, by simp; omega⟩)
    · exact .inl ⟨by simp; omega, by simp; omega⟩
    · exact absurd (h2 e) (by decide)
  · refine .inl ⟨rfl, Lib.hid (ho1 (by decide)), Lib.hid (ho2 (by decide)), Lib.hid ?_⟩
    rcases hp with e | e | e
    · by_cases hq : q < 0
      · exact absurd (h3 e hq) (by decide)
      · exact .inr (.inl ⟨by simp; omega, by simp; omega, by simp; omega⟩)
    · exact .inl ⟨by simp; omega, by simp; omega⟩
    · exact absurd (h2 e) (by decide)
theorem meet_law (n0x d0x n0y d0y n1x d1x n1y d1y n2x d2x n2y d2y n3x d3x n3y d3y : Int) (w : World) (h1_0x : -9223372036854775808 ≤ n0x) (h2_0x : n0x ≤ 9223372036854775807) (h3_0x : 0 ≤ d0x) (h4_0x : d0x ≤ 4294967295) (h1_0y : -9223372036854775808 ≤ n0y) (h2_0y : n0y ≤ 9223372036854775807) (h3_0y : 0 ≤ d0y) (h4_0y : d0y ≤ 4294967295) (h1_1x : -9223372036854775808 ≤ n1x) (h2_1x : n1x ≤ 9223372036854775807) (h3_1x : 0 ≤ d1x) (h4_1x : d1x ≤ 4294967295) (h1_1y : -9223372036854775808 ≤ n1y) (h2_1y : n1y ≤ 9223372036854775807) (h3_1y : 0 ≤ d1y) (h4_1y : d1y ≤ 4294967295) (h1_2x : -9223372036854775808 ≤ n2x) (h2_2x : n2x ≤ 9223372036854775807) (h3_2x : 0 ≤ d2x) (h4_2x : d2x ≤ 4294967295) (h1_2y : -9223372036854775808 ≤ n2y) (h2_2y : n2y ≤ 9223372036854775807) (h3_2y : 0 ≤ d2y) (h4_2y : d2y ≤ 4294967295) (h1_3x : -9223372036854775808 ≤ n3x) (h2_3x : n3x ≤ 9223372036854775807) (h3_3x : 0 ≤ d3x) (h4_3x : d3x ≤ 4294967295) (h1_3y : -9223372036854775808 ≤ n3y) (h2_3y : n3y ≤ 9223372036854775807) (h3_3y : 0 ≤ d3y) (h4_3y : d3y ≤ 4294967295) :
    Calls Try.prog 5 #[(Value.agg #[.int .i64 (n0x), .int .u32 (d0x), .int .i64 (n0y), .int .u32 (d0y), .int .i64 (n1x), .int .u32 (d1x), .int .i64 (n1y), .int .u32 (d1y), .int .i64 (n2x), .int .u32 (d2x), .int .i64 (n2y), .int .u32 (d2y), .int .i64 (n3x), .int .u32 (d3x), .int .i64 (n3y), .int .u32 (d3y)])] w fun e w' => e = .returned (.bool true) ∧ Below w.heap.size w w' := by
  have s_0x : sz (qv n0x d0x) ≤ 4 := sz_qv _ _ h1_0x h2_0x h3_0x h4_0x
  have s_0y : sz (qv n0y d0y) ≤ 4 := sz_qv _ _ h1_0y h2_0y h3_0y h4_0y
  have s_1x : sz (qv n1x d1x) ≤ 4 := sz_qv _ _ h1_1x h2_1x h3_1x h4_1x
  have s_1y : sz (qv n1y d1y) ≤ 4 := sz_qv _ _ h1_1y h2_1y h3_1y h4_1y
  have s_2x : sz (qv n2x d2x) ≤ 4 := sz_qv _ _ h1_2x h2_2x h3_2x h4_2x
  have s_2y : sz (qv n2y d2y) ≤ 4 := sz_qv _ _ h1_2y h2_2y h3_2y h4_2y
  have s_3x : sz (qv n3x d3x) ≤ 4 := sz_qv _ _ h1_3x h2_3x h3_3x h4_3x
  have s_3y : sz (qv n3y d3y) ≤ 4 := sz_qv _ _ h1_3y h2_3y h3_3y h4_3y
  obtain ⟨A, hA⟩ : ∃ A : Rat × Rat, A = ((qv n0x d0x), (qv n0y d0y)) := ⟨_, rfl⟩
  obtain ⟨B, hB⟩ : ∃ A : Rat × Rat, A = ((qv n1x d1x), (qv n1y d1y)) := ⟨_, rfl⟩
  obtain ⟨C, hC⟩ : ∃ A : Rat × Rat, A = ((qv n2x d2x), (qv n2y d2y)) := ⟨_, rfl⟩
  obtain ⟨D, hD⟩ : ∃ A : Rat × Rat, A = ((qv n3x d3x), (qv n3y d3y)) := ⟨_, rfl⟩
  have sA : szp 4 A := by rw [hA]; exact ⟨s_0x, s_0y⟩
  have sB : szp 4 B := by rw [hB]; exact ⟨s_1x, s_1y⟩
  have sC : szp 4 C := by rw [hC]; exact ⟨s_2x, s_2y⟩
  have sD : szp 4 D := by rw [hD]; exact ⟨s_3x, s_3y⟩
  have sM : szp 13 (mid A B) := by
    have h1 := sz_add A.1 B.1
    have h2 := sz_add A.2 B.2
    have h3 := sz_mul (A.1 + B.1) half
    have h4 := sz_mul (A.2 + B.2) half
    have h5 := sz_half
    obtain ⟨x1, x2⟩ := sA
    obtain ⟨y1, y2⟩ := sB
    exact ⟨by show sz ((A.1 + B.1) * half) ≤ 13; omega, by show sz ((A.2 + B.2) * half) ≤ 13; omega⟩
  have up : ∀ {k : Nat} {x : Rat × Rat}, szp k x → k ≤ 40 → szp 40 x := fun h hk => ⟨Nat.le_trans h.1 hk, Nat.le_trans h.2 hk⟩
  have c1 := szp_cut (up sA (by decide)) (up sB (by decide)) (up sC (by decide)) (up sD (by decide))
  have c3 := szp_cut (up sA (by decide)) (up sB (by decide)) (up sM (by decide)) (up sC (by decide))
  have hn := cut_bd A B C D
  have hk := mid_cut A B C
  refine meet_walk n0x d0x n0y d0y n1x d1x n1y d1y n2x d2x n2y d2y n3x d3x n3y d3y A.1 A.2 B.1 B.2 C.1 C.2 D.1 D.2 (cutV A B C D).2.1 (cutV A B C D).2.2 (cutV A B (mid A B) C).2.1 (cutV A B (mid A B) C).2.2 (mid A B).1 (mid A B).2 (cutV A B C D).1 (cutV A B (mid A B) C).1 (tn A B C) (tn A B D) (tn C D A) (tn C D B) (tn A B C * tn A B D) (tn C D A * tn C D B) w h1_0x h2_0x h3_0x h4_0x h1_0y h2_0y h3_0y h4_0y h1_1x h2_1x h3_1x h4_1x h1_1y h2_1y h3_1y h4_1y h1_2x h2_2x h3_2x h4_2x h1_2y h2_2y h3_2y h4_2y h1_3x h2_3x h3_3x h4_3x h1_3y h2_3y h3_3y h4_3y
    (Lib.hid (by rw [hA])) (Lib.hid (by rw [hA])) (Lib.hid (by rw [hB])) (Lib.hid (by rw [hB])) (Lib.hid (by rw [hC])) (Lib.hid (by rw [hC])) (Lib.hid (by rw [hD])) (Lib.hid (by rw [hD]))
    sA.1 sA.2 sB.1 sB.2 sC.1 sC.2 sD.1 sD.2 (Lib.hid rfl) (Lib.hid (cut_sym A B C D)) (Lib.hid rfl) (Lib.hid rfl) (Lib.hid rfl) sM.1 sM.2 c1.1 c1.2 c3.1 c3.2 (by simp; omega) (by simp; omega) (by simpa using hk)
    (Lib.hid (mid_on A B)) (Lib.hid (on_a A B)) (Lib.hid (cut_on (p := (cutV A B (mid A B) C).2) rfl hk).1) (Lib.hid rfl) (Lib.hid rfl) (Lib.hid rfl) (Lib.hid rfl)
    (wrap_tn (tn_cases A B C) (tn_cases A B D)) (wrap_tn (tn_cases C D A) (tn_cases C D B)) (meet_way _ _ _ _ _ hn cut_off cut_cross (fun h => (cut_on (p := (cutV A B C D).2) rfl h).1) (fun h => (cut_on (p := (cutV A B C D).2) rfl h).2))

end Go.Proofs.Ytenpbnmmadbkdaa
