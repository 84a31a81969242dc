
/- points.Cut, whole. -/
import Derived.Test.YtobojnodohjiaaaGreatDoorOf3P
import Derived.Test.YtobojnodohjiaaaGreatDoorCut1
set_option linter.unusedVariables false
set_option linter.unusedSimpArgs false
namespace Go.Proofs.YtobojnodohjiaaaGreatDoor
open Go.RowKit
attribute [local go_sem ↓] Go.wp_at_zero Go.wp_at_succ
theorem pcut_any (a b c d : Rat × Rat) (n : Int) (m : Rat × Rat) (w : World) (h : cutV a b c d = (n, m)) (ha : szp 10000000 a) (hb : szp 10000000 b) (hc : szp 10000000 c) (hd : szp 10000000 d) :
    Calls Tryz.prog 16 #[(Value.agg #[.int .u64 ((lo (Int.natAbs ((a.1).num)) : Nat) : Int), .string (bg (Int.natAbs ((a.1).num))), .bool (decide (((a.1).num) < 0)), .int .u64 ((lo ((a.1).den - 1) : Nat) : Int), .string (bg ((a.1).den - 1)), .int .u64 ((lo (Int.natAbs ((a.2).num)) : Nat) : Int), .string (bg (Int.natAbs ((a.2).num))), .bool (decide (((a.2).num) < 0)), .int .u64 ((lo ((a.2).den - 1) : Nat) : Int), .string (bg ((a.2).den - 1))]), (Value.agg #[.int .u64 ((lo (Int.natAbs ((b.1).num)) : Nat) : Int), .string (bg (Int.natAbs ((b.1).num))), .bool (decide (((b.1).num) < 0)), .int .u64 ((lo ((b.1).den - 1) : Nat) : Int), .string (bg ((b.1).den - 1)), .int .u64 ((lo (Int.natAbs ((b.2).num)) : Nat) : Int), .string (bg (Int.natAbs ((b.2).num))), .bool (decide (((b.2).num) < 0)), .int .u64 ((lo ((b.2).den - 1) : Nat) : Int), .string (bg ((b.2).den - 1))]), (Value.agg #[.int .u64 ((lo (Int.natAbs ((c.1).num)) : Nat) : Int), .string (bg (Int.natAbs ((c.1).num))), .bool (decide (((c.1).num) < 0)), .int .u64 ((lo ((c.1).den - 1) : Nat) : Int), .string (bg ((c.1).den - 1)), .int .u64 ((lo (Int.natAbs ((c.2).num)) : Nat) : Int), .string (bg (Int.natAbs ((c.2).num))), .bool (decide (((c.2).num) < 0)), .int .u64 ((lo ((c.2).den - 1) : Nat) : Int), .string (bg ((c.2).den - 1))]), (Value.agg #[.int .u64 ((lo (Int.natAbs ((d.1).num)) : Nat) : Int), .string (bg (Int.natAbs ((d.1).num))), .bool (decide (((d.1).num) < 0)), .int .u64 ((lo ((d.1).den - 1) : Nat) : Int), .string (bg ((d.1).den - 1)), .int .u64 ((lo (Int.natAbs ((d.2).num)) : Nat) : Int), .string (bg (Int.natAbs ((d.2).num))), .bool (decide (((d.2).num) < 0)), .int .u64 ((lo ((d.2).den - 1) : Nat) : Int), .string (bg ((d.2).den - 1))])] w fun e w' => e = .returned (.tuple #[.int .i64 n, (.agg #[.int .u64 ((lo (Int.natAbs ((m.1).num)) : Nat) : Int), .string (bg (Int.natAbs ((m.1).num))), .bool (decide (((m.1).num) < 0)), .int .u64 ((lo ((m.1).den - 1) : Nat) : Int), .string (bg ((m.1).den - 1)), .int .u64 ((lo (Int.natAbs ((m.2).num)) : Nat) : Int), .string (bg (Int.natAbs ((m.2).num))), .bool (decide (((m.2).num) < 0)), .int .u64 ((lo ((m.2).den - 1) : Nat) : Int), .string (bg ((m.2).den - 1))])]) ∧ Below w.heap.size w w' := by
  have hwp := wrap_tn (tn_cases a b c) (tn_cases a b d)
  have hwq := wrap_tn (tn_cases c d a) (tn_cases c d b)
  have H1 : Hid (turn a.1 a.2 b.1 b.2 c.1 c.2 = tn a b c) := Lib.hid rfl
  have H2 : Hid (turn a.1 a.2 b.1 b.2 d.1 d.2 = tn a b d) := Lib.hid rfl
  have H3 : Hid (turn c.1 c.2 d.1 d.2 a.1 a.2 = tn c d a) := Lib.hid rfl
  have H4 : Hid (turn c.1 c.2 d.1 d.2 b.1 b.2 = tn c d b) := Lib.hid rfl
  have hsk : sz (crs a b c d) ≤ 100000000 := by
    have h1 := sz_cross (b.1 - a.1) (b.2 - a.2) (d.1 - c.1) (d.2 - c.2)
    have h2 := sz_sub b.1 a.1
    have h3 := sz_sub b.2 a.2
    have h4 := sz_sub d.1 c.1
    have h5 := sz_sub d.2 c.2
    obtain ⟨ha1, ha2⟩ := ha
    obtain ⟨hb1, hb2⟩ := hb
    obtain ⟨hc1, hc2⟩ := hc
    obtain ⟨hd1, hd2⟩ := hd
    unfold crs
    omega
  by_cases h0 : tn a b c = 0 ∧ tn a b d = 0 ∧ tn c d a = 0 ∧ tn c d b = 0
  · rw [cutV, if_pos h0] at h
    exact pcut_piece a.1 a.2 b.1 b.2 c.1 c.2 d.1 d.2 _ _ _ _ n m.1 m.2 w H1 H2 H3 H4 (by rw [h0.1]; rfl) (by rw [h0.2.1]; rfl) (by rw [h0.2.2.1]; rfl) (by rw [h0.2.2.2]; rfl) (Lib.hid h) ha.1 ha.2 hb.1 hb.2 hc.1 hc.2 hd.1 hd.2
  rw [cutV, if_neg h0] at h
  by_cases y1 : tn a b c = 0
  · by_cases y2 : tn a b d = 0
    · by_cases y3 : tn c d a = 0
      · have y4 : tn c d b ≠ 0 := fun e => h0 ⟨y1, y2, y3, e⟩
        by_cases g1 : 0 < tn a b c * tn a b d
        · rw [if_pos (.inl g1)] at h; injection h with e1 e2; subst e1 e2
          exact pcut_ways a.1 a.2 b.1 b.2 c.1 c.2 d.1 d.2 _ _ _ _ _ _ 0 0 0 w H1 H2 H3 H4 hwp hwq (.inr (.inr (.inr (⟨by rw [y1]; rfl, by rw [y2]; rfl, by rw [y3]; rfl, by simp [y4], Lib.hid (.inl ⟨decide_eq_true g1, rfl, rfl, rfl⟩)⟩)))) ha.1 ha.2 hb.1 hb.2 hc.1 hc.2 hd.1 hd.2
        by_cases g2 : 0 < tn c d a * tn c d b
        · rw [if_pos (.inr g2)] at h; injection h with e1 e2; subst e1 e2
          exact pcut_ways a.1 a.2 b.1 b.2 c.1 c.2 d.1 d.2 _ _ _ _ _ _ 0 0 0 w H1 H2 H3 H4 hwp hwq (.inr (.inr (.inr (⟨by rw [y1]; rfl, by rw [y2]; rfl, by rw [y3]; rfl, by simp [y4], Lib.hid (.inr (.inl ⟨decide_eq_false g1, decide_eq_true g2, rfl, rfl, rfl⟩))⟩)))) ha.1 ha.2 hb.1 hb.2 hc.1 hc.2 hd.1 hd.2
        have hne := crs_ne h0 (fun e => e.elim g1 g2)
        rw [if_neg (fun e => e.elim g1 g2)] at h; injection h with e1 e2; subst e1 e2
        exact pcut_ways a.1 a.2 b.1 b.2 c.1 c.2 d.1 d.2 _ _ _ _ _ _ 1 (cutP a b c d).1 (cutP a b c d).2 w H1 H2 H3 H4 hwp hwq (.inr (.inr (.inr (⟨by rw [y1]; rfl, by rw [y2]; rfl, by rw [y3]; rfl, by simp [y4], Lib.hid (.inr (.inr ⟨decide_eq_false g1, decide_eq_false g2, rfl, Lib.hid hne, hsk, Lib.hid rfl, Lib.hid rfl⟩))⟩)))) ha.1 ha.2 hb.1 hb.2 hc.1 hc.2 hd.1 hd.2
      · by_cases g1 : 0 < tn a b c * tn a b d
        · rw [if_pos (.inl g1)] at h; injection h with e1 e2; subst e1 e2
          exact pcut_ways a.1 a.2 b.1 b.2 c.1 c.2 d.1 d.2 _ _ _ _ _ _ 0 0 0 w H1 H2 H3 H4 hwp hwq (.inr (.inr (.inl ⟨by rw [y1]; rfl, by rw [y2]; rfl, by simp [y3], Lib.hid (.inl ⟨decide_eq_true g1, rfl, rfl, rfl⟩)⟩))) ha.1 ha.2 hb.1 hb.2 hc.1 hc.2 hd.1 hd.2
        by_cases g2 : 0 < tn c d a * tn c d b
        · rw [if_pos (.inr g2)] at h; injection h with e1 e2; subst e1 e2
          exact pcut_ways a.1 a.2 b.1 b.2 c.1 c.2 d.1 d.2 _ _ _ _ _ _ 0 0 0 w H1 H2 H3 H4 hwp hwq (.inr (.inr (.inl ⟨by rw [y1]; rfl, by rw [y2]; rfl, by simp [y3], Lib.hid (.inr (.inl ⟨decide_eq_false g1, decide_eq_true g2, rfl, rfl, rfl⟩))⟩))) ha.1 ha.2 hb.1 hb.2 hc.1 hc.2 hd.1 hd.2
        have hne := crs_ne h0 (fun e => e.elim g1 g2)
        rw [if_neg (fun e => e.elim g1 g2)] at h; injection h with e1 e2; subst e1 e2
        exact pcut_ways a.1 a.2 b.1 b.2 c.1 c.2 d.1 d.2 _ _ _ _ _ _ 1 (cutP a b c d).1 (cutP a b c d).2 w H1 H2 H3 H4 hwp hwq (.inr (.inr (.inl ⟨by rw [y1]; rfl, by rw [y2]; rfl, by simp [y3], Lib.hid (.inr (.inr ⟨decide_eq_false g1, decide_eq_false g2, rfl, Lib.hid hne, hsk, Lib.hid rfl, Lib.hid rfl⟩))⟩))) ha.1 ha.2 hb.1 hb.2 hc.1 hc.2 hd.1 hd.2
    · by_cases g1 : 0 < tn a b c * tn a b d
      · rw [if_pos (.inl g1)] at h; injection h with e1 e2; subst e1 e2
        exact pcut_ways a.1 a.2 b.1 b.2 c.1 c.2 d.1 d.2 _ _ _ _ _ _ 0 0 0 w H1 H2 H3 H4 hwp hwq (.inr (.inl ⟨by rw [y1]; rfl, by simp [y2], Lib.hid (.inl ⟨decide_eq_true g1, rfl, rfl, rfl⟩)⟩)) ha.1 ha.2 hb.1 hb.2 hc.1 hc.2 hd.1 hd.2
      by_cases g2 : 0 < tn c d a * tn c d b
      · rw [if_pos (.inr g2)] at h; injection h with e1 e2; subst e1 e2
        exact pcut_ways a.1 a.2 b.1 b.2 c.1 c.2 d.1 d.2 _ _ _ _ _ _ 0 0 0 w H1 H2 H3 H4 hwp hwq (.inr (.inl ⟨by rw [y1]; rfl, by simp [y2], Lib.hid (.inr (.inl ⟨decide_eq_false g1, decide_eq_true g2, rfl, rfl, rfl⟩))⟩)) ha.1 ha.2 hb.1 hb.2 hc.1 hc.2 hd.1 hd.2
      have hne := crs_ne h0 (fun e => e.elim g1 g2)
      rw [if_neg (fun e => e.elim g1 g2)] at h; injection h with e1 e2; subst e1 e2
      exact pcut_ways a.1 a.2 b.1 b.2 c.1 c.2 d.1 d.2 _ _ _ _ _ _ 1 (cutP a b c d).1 (cutP a b c d).2 w H1 H2 H3 H4 hwp hwq (.inr (.inl ⟨by rw [y1]; rfl, by simp [y2], Lib.hid (.inr (.inr ⟨decide_eq_false g1, decide_eq_false g2, rfl, Lib.hid hne, hsk, Lib.hid rfl, Lib.hid rfl⟩))⟩)) ha.1 ha.2 hb.1 hb.2 hc.1 hc.2 hd.1 hd.2
  · by_cases g1 : 0 < tn a b c * tn a b d
    · rw [if_pos (.inl g1)] at h; injection h with e1 e2; subst e1 e2
      exact pcut_ways a.1 a.2 b.1 b.2 c.1 c.2 d.1 d.2 _ _ _ _ _ _ 0 0 0 w H1 H2 H3 H4 hwp hwq (.inl ⟨by simp [y1], Lib.hid (.inl ⟨decide_eq_true g1, rfl, rfl, rfl⟩)⟩) ha.1 ha.2 hb.1 hb.2 hc.1 hc.2 hd.1 hd.2
    by_cases g2 : 0 < tn c d a * tn c d b
    · rw [if_pos (.inr g2)] at h; injection h with e1 e2; subst e1 e2
      exact pcut_ways a.1 a.2 b.1 b.2 c.1 c.2 d.1 d.2 _ _ _ _ _ _ 0 0 0 w H1 H2 H3 H4 hwp hwq (.inl ⟨by simp [y1], Lib.hid (.inr ⟨decide_eq_false g1, decide_eq_true g2, rfl, rfl, rfl⟩)⟩) ha.1 ha.2 hb.1 hb.2 hc.1 hc.2 hd.1 hd.2
    have hne := crs_ne h0 (fun e => e.elim g1 g2)
    rw [if_neg (fun e => e.elim g1 g2)] at h; injection h with e1 e2; subst e1 e2
    exact pcut_one_0 a.1 a.2 b.1 b.2 c.1 c.2 d.1 d.2 _ _ _ _ _ _ (crs a b c d) (cutP a b c d).1 (cutP a b c d).2 w H1 H2 H3 H4 (by simp [y1]) hwp hwq (decide_eq_false g1) (decide_eq_false g2) (Lib.hid rfl) (Lib.hid hne) hsk (Lib.hid rfl) (Lib.hid rfl) ha.1 ha.2 hb.1 hb.2 hc.1 hc.2 hd.1 hd.2
end Go.Proofs.YtobojnodohjiaaaGreatDoor
