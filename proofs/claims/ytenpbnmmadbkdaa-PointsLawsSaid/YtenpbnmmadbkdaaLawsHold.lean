/- PointsLaws's row holds. No condition. -/
import Derived.Test.YtenpbnmmadbkdaaLift
import Derived.Test.YtenpbnmmadbkdaaLaws
namespace Go.Proofs.Ytenpbnmmadbkdaa
open Go.ChangeShapes Go.WideShapes Go.ChangeAt Go.RowKit
set_option maxRecDepth 100000 in
theorem open_x {w : World} {r : Reach} {base : Nat} {v : Value} (h : Value.okWide Try.prog w r base 26 v) : ∃ x0 x1 x2 x3 : Int, v = .agg #[.int .i64 x0, .int .u32 x1, .int .i64 x2, .int .u32 x3] ∧ -9223372036854775808 ≤ x0 ∧ x0 ≤ 9223372036854775807 ∧ 0 ≤ x1 ∧ x1 ≤ 4294967295 ∧ -9223372036854775808 ≤ x2 ∧ x2 ≤ 9223372036854775807 ∧ 0 ≤ x3 ∧ x3 ≤ 4294967295 := by
  obtain ⟨l, rfl, hl, hc⟩ := row_open (ts := [2, 22, 2, 22]) (.inl ⟨_, Try.underlying26⟩) (by kernel_rfl) (by kernel_rfl) h
  rcases l with _ | ⟨c0, l⟩
  · simp at hl
  rcases l with _ | ⟨c1, l⟩
  · simp at hl
  rcases l with _ | ⟨c2, l⟩
  · simp at hl
  rcases l with _ | ⟨c3, l⟩
  · simp at hl
  rcases l with _ | ⟨x, l⟩
  case cons => simp at hl
  obtain ⟨x0, rfl, k0⟩ := cell_int Try.underlying2 (hc 0 _ _ rfl rfl)
  obtain ⟨x1, rfl, k1⟩ := cell_int Try.underlying22 (hc 1 _ _ rfl rfl)
  obtain ⟨x2, rfl, k2⟩ := cell_int Try.underlying2 (hc 2 _ _ rfl rfl)
  obtain ⟨x3, rfl, k3⟩ := cell_int Try.underlying22 (hc 3 _ _ rfl rfl)
  simp [IntKind.has, IntKind.min, IntKind.max, IntKind.bits, IntKind.signed] at k0 k1 k2 k3
  exact ⟨x0, x1, x2, x3, rfl, by omega, by omega, by omega, by omega, by omega, by omega, by omega, by omega⟩
set_option maxRecDepth 100000 in
theorem open_y {w : World} {r : Reach} {base : Nat} {v : Value} (h : Value.okWide Try.prog w r base 26 v) : ∃ y0 y1 y2 y3 : Int, v = .agg #[.int .i64 y0, .int .u32 y1, .int .i64 y2, .int .u32 y3] ∧ -9223372036854775808 ≤ y0 ∧ y0 ≤ 9223372036854775807 ∧ 0 ≤ y1 ∧ y1 ≤ 4294967295 ∧ -9223372036854775808 ≤ y2 ∧ y2 ≤ 9223372036854775807 ∧ 0 ≤ y3 ∧ y3 ≤ 4294967295 := by
  obtain ⟨l, rfl, hl, hc⟩ := row_open (ts := [2, 22, 2, 22]) (.inl ⟨_, Try.underlying26⟩) (by kernel_rfl) (by kernel_rfl) h
  rcases l with _ | ⟨c0, l⟩
  · simp at hl
  rcases l with _ | ⟨c1, l⟩
  · simp at hl
  rcases l with _ | ⟨c2, l⟩
  · simp at hl
  rcases l with _ | ⟨c3, l⟩
  · simp at hl
  rcases l with _ | ⟨x, l⟩
  case cons => simp at hl
  obtain ⟨y0, rfl, k0⟩ := cell_int Try.underlying2 (hc 0 _ _ rfl rfl)
  obtain ⟨y1, rfl, k1⟩ := cell_int Try.underlying22 (hc 1 _ _ rfl rfl)
  obtain ⟨y2, rfl, k2⟩ := cell_int Try.underlying2 (hc 2 _ _ rfl rfl)
  obtain ⟨y3, rfl, k3⟩ := cell_int Try.underlying22 (hc 3 _ _ rfl rfl)
  simp [IntKind.has, IntKind.min, IntKind.max, IntKind.bits, IntKind.signed] at k0 k1 k2 k3
  exact ⟨y0, y1, y2, y3, rfl, by omega, by omega, by omega, by omega, by omega, by omega, by omega, by omega⟩
set_option maxRecDepth 100000 in
theorem pointsLaws_lifted (os : Os) (started : os.Started) (H : Type) (enc : TypeId × Value → H) :
    ReturnsInHanded {} Try.checked os 6 .any (Rows.pointsLawsSpec.pre6 enc Try.prog Try.f6 Rows.pointsLawsRow.domain false) (Rows.pointsLawsSpec.post enc Try.prog Try.f6 false true false false) := by
  refine returnsInHanded_of_change (C := Try.checked) Try.own started (by kernel_rfl) Try.func6
    (ChangeSpec.witness6 (enc := enc) (C := Try.checked) false ⟨#[], #[.agg #[.int .i64 0, .int .u32 0, .int .i64 0, .int .u32 0], .agg #[.int .i64 0, .int .u32 0, .int .i64 0, .int .u32 0]], []⟩ 8 (by kernel_rfl) (by kernel_rfl) (by kernel_rfl) (by kernel_rfl)) ?_
  intro W base args ds gs before hval0 hW hcnd _
  have hval : ∀ (j : Nat) t v, Try.f6.params[j]? = some t → args[j]? = some v → Value.okWide Try.prog W .any base t v := hval0
  have hW' := hW
  obtain ⟨p, q, hA0, hV, rfl, hfz, hnd⟩ := hW
  have hA : DataW.TrodAll enc Try.prog W 0 (fun _ => true) true Try.f6.params.toList args.toList ds p := hA0
  rw [Try.params6] at hA hval
  obtain ⟨v0, v1, d0, d1, p0, p1, rfl, rfl, rfl, h0, h1⟩ := trodAll_two hA
  obtain ⟨rfl, rfl⟩ := trodVars_none hV
  obtain ⟨x0, x1, x2, x3, rfl, lx0, gx0, lx1, gx1, lx2, gx2, lx3, gx3⟩ := open_x (hval 0 26 v0 rfl rfl)
  obtain ⟨y0, y1, y2, y3, rfl, ly0, gy0, ly1, gy1, ly2, gy2, ly3, gy3⟩ := open_y (hval 1 26 v1 rfl rfl)
  clear hA0 hval0
  simp only [List.append_nil] at hW'
  refine (laws_law x0 x1 x2 x3 y0 y1 y2 y3 W lx0 gx0 lx1 gx1 lx2 gx2 lx3 gx3 ly0 gy0 ly1 gy1 ly2 gy2 ly3 gy3).mono fun e W' ⟨he, hb⟩ => ?_
  subst he
  exact ⟨_, rfl, post_of_below (pv := []) hW' (fun _ _ _ => trodAll_mk1 (shut_bool Try.underlying4 true)) (fun sp hs => trodAll_mk2 (stays (by kernel_rfl) (by decide +kernel) h0 hb (fun x hx => hW'.lt x (by simp [hx])) sp (fun x hx => hs x (by simp [hx]))) (stays (by kernel_rfl) (by decide +kernel) h1 hb (fun x hx => hW'.lt x (by simp [hx])) sp (fun x hx => hs x (by simp [hx])))) (fun _ _ => rfl) (by simp) hb (ok_one (by kernel_rfl) rfl (okWide_bool_mk Try.underlying4 true))⟩
theorem pointsLaws_holds : Rows.PointsLawsSaid :=
  OpenClaim.holds_of_wide 6 Try.f6 rfl rfl rfl rfl rfl rfl rfl ⟨rfl, rfl, rfl, rfl, rfl⟩ rfl rfl rfl rfl rfl (by kernel_rfl) Try.func6 (by kernel_rfl)
    (of_decide_eq_true (by kernel_rfl)) (by unfold Func.isWrapper; first | (rw [if_pos (by decide +kernel)]; kernel_rfl) | (rw [if_neg (by decide +kernel)]; exact ⟨rfl, rfl⟩))
    (fun os started H enc _ => pointsLaws_lifted os started H enc)
end Go.Proofs.Ytenpbnmmadbkdaa
