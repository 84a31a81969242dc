/- PointsMeet's row holds. No condition. -/
import Derived.Test.YtenpbnmmadbkdaaLift
import Derived.Test.YtenpbnmmadbkdaaMeetL
namespace Go.Proofs.Ytenpbnmmadbkdaa
open Go.ChangeShapes Go.WideShapes Go.ChangeAt Go.RowKit
set_option maxRecDepth 100000 in
theorem open_x {w : World} {r : Reach} {base : Nat} {v : Value} (h : Value.okWide Try.prog w r base 47 v) : ∃ x0 x1 x2 x3 x4 x5 x6 x7 x8 x9 x10 x11 x12 x13 x14 x15 : Int, v = .agg #[.int .i64 x0, .int .u32 x1, .int .i64 x2, .int .u32 x3, .int .i64 x4, .int .u32 x5, .int .i64 x6, .int .u32 x7, .int .i64 x8, .int .u32 x9, .int .i64 x10, .int .u32 x11, .int .i64 x12, .int .u32 x13, .int .i64 x14, .int .u32 x15] ∧ -9223372036854775808 ≤ x0 ∧ x0 ≤ 9223372036854775807 ∧ 0 ≤ x1 ∧ x1 ≤ 4294967295 ∧ -9223372036854775808 ≤ x2 ∧ x2 ≤ 9223372036854775807 ∧ 0 ≤ x3 ∧ x3 ≤ 4294967295 ∧ -9223372036854775808 ≤ x4 ∧ x4 ≤ 9223372036854775807 ∧ 0 ≤ x5 ∧ x5 ≤ 4294967295 ∧ -9223372036854775808 ≤ x6 ∧ x6 ≤ 9223372036854775807 ∧ 0 ≤ x7 ∧ x7 ≤ 4294967295 ∧ -9223372036854775808 ≤ x8 ∧ x8 ≤ 9223372036854775807 ∧ 0 ≤ x9 ∧ x9 ≤ 4294967295 ∧ -9223372036854775808 ≤ x10 ∧ x10 ≤ 9223372036854775807 ∧ 0 ≤ x11 ∧ x11 ≤ 4294967295 ∧ -9223372036854775808 ≤ x12 ∧ x12 ≤ 9223372036854775807 ∧ 0 ≤ x13 ∧ x13 ≤ 4294967295 ∧ -9223372036854775808 ≤ x14 ∧ x14 ≤ 9223372036854775807 ∧ 0 ≤ x15 ∧ x15 ≤ 4294967295 := by
  obtain ⟨l, rfl, hl, hc⟩ := row_open (ts := [2, 22, 2, 22, 2, 22, 2, 22, 2, 22, 2, 22, 2, 22, 2, 22]) (.inr ⟨_, _, Try.underlying47⟩) (by kernel_rfl) (by kernel_rfl) h
  rcases l with _ | ⟨c0, l⟩
  · simp at hl
  rcases l with _ | ⟨c1, l⟩
  · simp at hl
  rcases l with _ | ⟨c2, l⟩
  · simp at hl
  rcases l with _ | ⟨c3, l⟩
  · simp at hl
  rcases l with _ | ⟨c4, l⟩
  · simp at hl
  rcases l with _ | ⟨c5, l⟩
  · simp at hl
  rcases l with _ | ⟨c6, l⟩
  · simp at hl
  rcases l with _ | ⟨c7, l⟩
  · simp at hl
  rcases l with _ | ⟨c8, l⟩
  · simp at hl
  rcases l with _ | ⟨c9, l⟩
  · simp at hl
  rcases l with _ | ⟨c10, l⟩
  · simp at hl
  rcases l with _ | ⟨c11, l⟩
  · simp at hl
  rcases l with _ | ⟨c12, l⟩
  · simp at hl
  rcases l with _ | ⟨c13, l⟩
  · simp at hl
  rcases l with _ | ⟨c14, l⟩
  · simp at hl
  rcases l with _ | ⟨c15, l⟩
  · simp at hl
  rcases l with _ | ⟨x, l⟩
  case cons => simp at hl
  obtain ⟨x0, rfl, k0⟩ := cell_int Try.underlying2 (hc 0 _ _ rfl rfl)
  obtain ⟨x1, rfl, k1⟩ := cell_int Try.underlying22 (hc 1 _ _ rfl rfl)
  obtain ⟨x2, rfl, k2⟩ := cell_int Try.underlying2 (hc 2 _ _ rfl rfl)
  obtain ⟨x3, rfl, k3⟩ := cell_int Try.underlying22 (hc 3 _ _ rfl rfl)
  obtain ⟨x4, rfl, k4⟩ := cell_int Try.underlying2 (hc 4 _ _ rfl rfl)
  obtain ⟨x5, rfl, k5⟩ := cell_int Try.underlying22 (hc 5 _ _ rfl rfl)
  obtain ⟨x6, rfl, k6⟩ := cell_int Try.underlying2 (hc 6 _ _ rfl rfl)
  obtain ⟨x7, rfl, k7⟩ := cell_int Try.underlying22 (hc 7 _ _ rfl rfl)
  obtain ⟨x8, rfl, k8⟩ := cell_int Try.underlying2 (hc 8 _ _ rfl rfl)
  obtain ⟨x9, rfl, k9⟩ := cell_int Try.underlying22 (hc 9 _ _ rfl rfl)
  obtain ⟨x10, rfl, k10⟩ := cell_int Try.underlying2 (hc 10 _ _ rfl rfl)
  obtain ⟨x11, rfl, k11⟩ := cell_int Try.underlying22 (hc 11 _ _ rfl rfl)
  obtain ⟨x12, rfl, k12⟩ := cell_int Try.underlying2 (hc 12 _ _ rfl rfl)
  obtain ⟨x13, rfl, k13⟩ := cell_int Try.underlying22 (hc 13 _ _ rfl rfl)
  obtain ⟨x14, rfl, k14⟩ := cell_int Try.underlying2 (hc 14 _ _ rfl rfl)
  obtain ⟨x15, rfl, k15⟩ := cell_int Try.underlying22 (hc 15 _ _ rfl rfl)
  simp [IntKind.has, IntKind.min, IntKind.max, IntKind.bits, IntKind.signed] at k0 k1 k2 k3 k4 k5 k6 k7 k8 k9 k10 k11 k12 k13 k14 k15
  exact ⟨x0, x1, x2, x3, x4, x5, x6, x7, x8, x9, x10, x11, x12, x13, x14, x15, rfl, by omega, by omega, by omega, by omega, by omega, by omega, by omega, by omega, by omega, by omega, by omega, by omega, by omega, by omega, by omega, by omega, by omega, by omega, by omega, by omega, by omega, by omega, by omega, by omega, by omega, by omega, by omega, by omega, by omega, by omega, by omega, by omega⟩
set_option maxRecDepth 100000 in
theorem pointsMeet_lifted (os : Os) (started : os.Started) (H : Type) (enc : TypeId × Value → H) :
    ReturnsInHanded {} Try.checked os 5 .any (Rows.pointsMeetSpec.pre6 enc Try.prog Try.f5 Rows.pointsMeetRow.domain false) (Rows.pointsMeetSpec.post enc Try.prog Try.f5 false true false false) := by
  refine returnsInHanded_of_change (C := Try.checked) Try.own started (by kernel_rfl) Try.func5
    (ChangeSpec.witness6 (enc := enc) (C := Try.checked) false ⟨#[], #[.agg #[.int .i64 0, .int .u32 0, .int .i64 0, .int .u32 0, .int .i64 0, .int .u32 0, .int .i64 0, .int .u32 0, .int .i64 0, .int .u32 0, .int .i64 0, .int .u32 0, .int .i64 0, .int .u32 0, .int .i64 0, .int .u32 0]], []⟩ 8 (by kernel_rfl) (by kernel_rfl) (by kernel_rfl) (by kernel_rfl)) ?_
  intro W base args ds gs before hval0 hW hcnd _
  have hval : ∀ (j : Nat) t v, Try.f5.params[j]? = some t → args[j]? = some v → Value.okWide Try.prog W .any base t v := hval0
  have hW' := hW
  obtain ⟨p, q, hA0, hV, rfl, hfz, hnd⟩ := hW
  have hA : DataW.TrodAll enc Try.prog W 0 (fun _ => true) true Try.f5.params.toList args.toList ds p := hA0
  rw [Try.params5] at hA hval
  obtain ⟨v0, d0, rfl, rfl, h0⟩ := trodAll_one hA
  obtain ⟨rfl, rfl⟩ := trodVars_none hV
  obtain ⟨x0, x1, x2, x3, x4, x5, x6, x7, x8, x9, x10, x11, x12, x13, x14, x15, rfl, lx0, gx0, lx1, gx1, lx2, gx2, lx3, gx3, lx4, gx4, lx5, gx5, lx6, gx6, lx7, gx7, lx8, gx8, lx9, gx9, lx10, gx10, lx11, gx11, lx12, gx12, lx13, gx13, lx14, gx14, lx15, gx15⟩ := open_x (hval 0 47 v0 rfl rfl)
  clear hA0 hval0
  simp only [List.append_nil] at hW'
  refine (meet_law x0 x1 x2 x3 x4 x5 x6 x7 x8 x9 x10 x11 x12 x13 x14 x15 W lx0 gx0 lx1 gx1 lx2 gx2 lx3 gx3 lx4 gx4 lx5 gx5 lx6 gx6 lx7 gx7 lx8 gx8 lx9 gx9 lx10 gx10 lx11 gx11 lx12 gx12 lx13 gx13 lx14 gx14 lx15 gx15).mono fun e W' ⟨he, hb⟩ => ?_
  subst he
  exact ⟨_, rfl, post_of_below (pv := []) hW' (fun _ _ _ => trodAll_mk1 (shut_bool Try.underlying4 true)) (fun sp hs => trodAll_mk1 (stays (by kernel_rfl) (by decide +kernel) h0 hb (fun x hx => hW'.lt x (by simpa using hx)) sp (fun x hx => hs x (by simpa using hx)))) (fun _ _ => rfl) (by simp) hb (ok_one (by kernel_rfl) rfl (okWide_bool_mk Try.underlying4 true))⟩
theorem pointsMeet_holds : Rows.PointsMeetSaid :=
  OpenClaim.holds_of_wide 5 Try.f5 rfl rfl rfl rfl rfl rfl rfl ⟨rfl, rfl, rfl, rfl, rfl⟩ rfl rfl rfl rfl rfl (by kernel_rfl) Try.func5 (by kernel_rfl)
    (of_decide_eq_true (by kernel_rfl)) (by unfold Func.isWrapper; first | (rw [if_pos (by decide +kernel)]; kernel_rfl) | (rw [if_neg (by decide +kernel)]; exact ⟨rfl, rfl⟩))
    (fun os started H enc _ => pointsMeet_lifted os started H enc)
end Go.Proofs.Ytenpbnmmadbkdaa
