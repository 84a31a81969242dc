
/- gussetref03.Reads, whole. -/
import Derived.Test.YtpcfncbcpknobaaGreatDoorQReads
import Derived.Test.YtpcfncbcpknobaaGreatDoorPW
namespace Go.Proofs.YtpcfncbcpknobaaGreatDoor
open Go.RowKit
set_option linter.unusedSimpArgs false
set_option linter.unusedVariables false
attribute [local go_sem ↓] Go.wp_at_zero Go.wp_at_succ
theorem fcode_cases (s : ByteArray) : (fcode s = 0 ∧ sz (fnum s) ≤ 512 ∧ rz (fnum s) ≤ 1024) ∨ (fcode s ≠ 0 ∧ fnum s = 0) := by
  rcases icode_cases2 (fup s) with ⟨hc, hw, ht⟩ | ⟨hc, hn⟩ | ⟨hc, hn⟩
  · rcases Bool.eq_false_or_eq_true (ftwo s) with h2 | h2
    · rcases pcode_cases2 (fdn s) with ⟨qc, qw, qt⟩ | ⟨qc, qn⟩ | ⟨qc, qn⟩
      · by_cases h0 : pnum (fdn s) = 0
        · exact .inr ⟨by unfold fcode; simp [hc, h2, qc, h0], by unfold fnum; simp [hc, h2, qc, h0]⟩
        · have e : fnum s = mkRat (inum (fup s)) (pnum (fdn s)) := by unfold fnum; simp [hc, h2, qc]
          exact .inl ⟨by unfold fcode; simp [hc, h2, qc, h0], by rw [e]; exact sz_mkRat hw qw (by decide), by rw [e]; exact rz_mkRat ht qt (by decide)⟩
      · exact .inr ⟨by unfold fcode; simp [hc, h2, qc], by unfold fnum; simp [hc, h2, qc]⟩
      · exact .inr ⟨by unfold fcode; simp [hc, h2, qc], by unfold fnum; simp [hc, h2, qc]⟩
    · have e : fnum s = ((inum (fup s) : Int) : Rat) := by unfold fnum; simp [hc, h2]
      exact .inl ⟨by unfold fcode; simp [hc, h2], by rw [e, sz_int]; omega, by rw [e, rz_int]; omega⟩
  · exact .inr ⟨by unfold fcode; simp [hc], by unfold fnum; simp [hc]⟩
  · exact .inr ⟨by unfold fcode; simp [hc], by unfold fnum; simp [hc]⟩
theorem zqreads (s : ByteArray) (z : Rat) (c : Int) (w : World) (hz : fnum s = z) (hc : fcode s = c) (hs : s.size ≤ 9223372036854775807) :
    Calls Tryz.prog 51 #[.string s] w fun e w' => (∃ r1 r2 : Value, e = .returned (.tuple #[.agg #[.bool (decide ((z).num < 0)), r1, r2], .int .i64 c]) ∧ Rn w' r1 (Int.natAbs ((z).num)) ∧ Rn w' r2 ((z).den - 1)) ∧ Below w.heap.size w w' := by
  subst hz hc
  have h1 := Nat.le_trans (fup_size s) hs
  have h2 := Nat.le_trans (fdn_size s) hs
  rcases icode_cases2 (fup s) with ⟨hc, hw, hwt⟩ | ⟨hc, hn⟩ | ⟨hc, hn⟩
  · rcases Bool.eq_false_or_eq_true (ftwo s) with ht | ht
    · rcases pcode_cases2 (fdn s) with ⟨qc, qw, qt⟩ | ⟨qc, qn⟩ | ⟨qc, qn⟩
      · by_cases h0 : pnum (fdn s) = 0
        · have e1 : fcode s = 5 := by unfold fcode; simp [hc, ht, qc, h0]
          have e2 : fnum s = 0 := by unfold fnum; simp [hc, ht, qc, h0]
          rw [e1, e2]
          exact qreads_d s _ _ _ w hs h1 h2 (Lib.hid rfl) (Lib.hid rfl) (Lib.hid ht) (Lib.hid hc) (Lib.hid rfl) (by omega) (Lib.hid qc) (Lib.hid h0)
        · have e1 : fcode s = 0 := by unfold fcode; simp [hc, ht, qc, h0]
          have e2 : mkRat (inum (fup s)) (pnum (fdn s)) = fnum s := by unfold fnum; simp [hc, ht, qc]
          rw [e1]
          exact qreads_e s _ _ _ _ _ w hs h1 h2 (Lib.hid rfl) (Lib.hid rfl) (Lib.hid ht) (Lib.hid hc) (Lib.hid rfl) (by omega) (Lib.hid qc) (Lib.hid rfl) (by omega) (by omega) (Lib.hid e2)
      · have e1 : fcode s = 3 := by unfold fcode; simp [hc, ht, qc]
        have e2 : fnum s = 0 := by unfold fnum; simp [hc, ht, qc]
        rw [e1, e2]
        exact qreads_c3 s _ _ _ w hs h1 h2 (Lib.hid rfl) (Lib.hid rfl) (Lib.hid ht) (Lib.hid hc) (Lib.hid rfl) (by omega) (Lib.hid qc) (Lib.hid qn)
      · have e1 : fcode s = 4 := by unfold fcode; simp [hc, ht, qc]
        have e2 : fnum s = 0 := by unfold fnum; simp [hc, ht, qc]
        rw [e1, e2]
        exact qreads_c4 s _ _ _ w hs h1 h2 (Lib.hid rfl) (Lib.hid rfl) (Lib.hid ht) (Lib.hid hc) (Lib.hid rfl) (by omega) (Lib.hid qc) (Lib.hid qn)
    · have e1 : fcode s = 0 := by unfold fcode; simp [hc, ht]
      have e2 : ((inum (fup s) : Int) : Rat) = fnum s := by unfold fnum; simp [hc, ht]
      rw [e1, ← e2]
      exact qreads_b s _ _ _ w hs h1 h2 (Lib.hid rfl) (Lib.hid rfl) (Lib.hid ht) (Lib.hid hc) (Lib.hid rfl) (by omega)
  · have e1 : fcode s = 3 := by unfold fcode; simp [hc]
    have e2 : fnum s = 0 := by unfold fnum; simp [hc]
    rw [e1, e2]
    exact qreads_a3 s _ _ _ w hs h1 h2 (Lib.hid rfl) (Lib.hid rfl) (Lib.hid rfl) (Lib.hid hc) (Lib.hid hn)
  · have e1 : fcode s = 4 := by unfold fcode; simp [hc]
    have e2 : fnum s = 0 := by unfold fnum; simp [hc]
    rw [e1, e2]
    exact qreads_a4 s _ _ _ w hs h1 h2 (Lib.hid rfl) (Lib.hid rfl) (Lib.hid rfl) (Lib.hid hc) (Lib.hid hn)

end Go.Proofs.YtpcfncbcpknobaaGreatDoor
