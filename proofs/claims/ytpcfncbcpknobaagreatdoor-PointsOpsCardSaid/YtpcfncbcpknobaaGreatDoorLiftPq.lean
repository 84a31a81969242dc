
/- From a law's walk to its row and card: slices of words, strings, integers; the laid table. No condition. -/
import Derived.Test.YtpcfncbcpknobaaGreatDoorPK
import Derived.Test.YtpcfncbcpknobaaGreatDoorPJ
import Derived.Test.YtpcfncbcpknobaaGreatDoorTie
import Derived.Test.YtpcfncbcpknobaaGreatDoorCards
import Derived.OpenShut
import Derived.Lay
import Derived.SevenTiedAt
import Derived.Stop.LaidErr
import Derived.ChangeSame
namespace Go.Proofs.YtpcfncbcpknobaaGreatDoor
open Go.ChangeShapes Go.WideShapes Go.ChangeAt Go.RowKit
set_option linter.unusedSimpArgs false
set_option linter.unusedVariables false
theorem tab_of {W : World} (h : laidMetH Tryz.prog Rows.pointsOpsRow.laid W) : Tab W := by
  rw [MakeChecks.laidMetH_plain _ _ _ (by kernel_rfl)] at h
  have e : (Rows.laid_internal_strconv_uint64pow10 : DataW Unit) = Lib.tabData .u64 Lib.pow10Tab := by kernel_rfl
  have h2 : laidMet Tryz.prog (("internal/strconv.uint64pow10", (Rows.laid_internal_strconv_uint64pow10 : DataW Unit)) :: []) W := by
    first | exact h | exact laidMet.tail h | exact laidMet.tail (laidMet.tail h) | exact laidMet.tail (laidMet.tail (laidMet.tail h))
  rw [e] at h2
  exact Lib.tabIs_of_head (g := 2) (by kernel_rfl) (by kernel_rfl) Tryz.underlying261 Tryz.underlying32 (by kernel_rfl) (by kernel_rfl) h2
theorem u32_wf {n : Int} (h : (Lit.int .u32 n).wf = true) : 0 ≤ n ∧ n < 4294967296 := by
  simp [Lit.wf, IntKind.has, IntKind.min, IntKind.max, IntKind.bits, IntKind.signed] at h
  omega
theorem i64_wf {n : Int} (h : (Lit.int .i64 n).wf = true) : -9223372036854775808 ≤ n ∧ n ≤ 9223372036854775807 := by
  simp [Lit.wf, IntKind.has, IntKind.min, IntKind.max, IntKind.bits, IntKind.signed] at h
  omega
set_option maxRecDepth 100000 in
/-- an argument that is a slice of words -/
theorem open_words {H : Type} {enc : TypeId × Value → H} {W : World} {base : Nat} {v : Value} {d : DataW H} {ps : List MemPlace} (hok : Value.okWide Tryz.prog W .any base 23 v)
    (h : DataW.Trod enc Tryz.prog W 0 (fun _ => true) true 23 v d ps) : ∃ k f, Hid (Wa W v k f) ∧ Hid (∀ i, i < k → f i < 4294967296) := by
  obtain ⟨a0, len, cap, rfl⟩ := okWide_slice Tryz.underlying23 hok
  obtain ⟨fuel, hf⟩ := h
  rcases open_ints Tryz.underlying23 Tryz.underlying22 (by kernel_rfl) hf with ⟨hcs, hx⟩ | ⟨a, len', cap', zs, hcs, _, hl, hm, hz, hx, hcell, hwz⟩
  · simp [Value.cells] at hcs
    obtain ⟨rfl, rfl, rfl⟩ := hcs
    exact ⟨0, fun _ => 0, Lib.hid (.inl ⟨_, _, rfl, rfl⟩), Lib.hid (fun i hi => absurd hi (Nat.not_lt_zero _))⟩
  · simp [Value.cells] at hcs
    obtain ⟨rfl, rfl, rfl⟩ := hcs
    simp at hz
    rcases Nat.eq_zero_or_pos len with h0 | h0
    · subst h0
      exact ⟨0, fun _ => 0, Lib.hid (.inl ⟨_, _, rfl, rfl⟩), Lib.hid (fun i hi => absurd hi (Nat.not_lt_zero _))⟩
    · obtain ⟨b, off, rfl, hc⟩ := ints_at hcell (by omega)
      have hw : ∀ i, i < len → 0 ≤ zs.getD i 0 ∧ zs.getD i 0 < 4294967296 := fun i hi => u32_wf (hwz _ (by
        rw [List.getD, List.getElem?_eq_getElem (by omega : i < zs.length)]
        exact List.getElem_mem _))
      refine ⟨len, fun i => (zs.getD i 0).toNat, Lib.hid (.inr ⟨b, off, cap, rfl, cell_lt (hc 0 (by omega)), fun i hi => ?_⟩), Lib.hid (fun i hi => ?_)⟩
      · rw [hc i (by omega)]
        have := hw i hi
        have e : zs.getD i 0 = (((zs.getD i 0).toNat : Nat) : Int) := by omega
        show some (Value.int .u32 (zs.getD i 0)) = some (Value.int .u32 (((zs.getD i 0).toNat : Nat) : Int))
        rw [← e]
      · have := hw i hi
        show (zs.getD i 0).toNat < 4294967296
        omega
set_option maxRecDepth 100000 in
theorem open_p {w : World} {r : Reach} {base : Nat} {v : Value} (h : Value.okWide Tryz.prog w r base 48 v) : ∃ p0 p1 p2 p3 : Int, v = .agg #[.int .i64 p0, .int .u32 p1, .int .i64 p2, .int .u32 p3] ∧ -9223372036854775808 ≤ p0 ∧ p0 ≤ 9223372036854775807 ∧ 0 ≤ p1 ∧ p1 ≤ 4294967295 ∧ -9223372036854775808 ≤ p2 ∧ p2 ≤ 9223372036854775807 ∧ 0 ≤ p3 ∧ p3 ≤ 4294967295 := by
  obtain ⟨l, rfl, hl, hc⟩ := row_open (ts := [2, 22, 2, 22]) (.inl ⟨_, Tryz.underlying48⟩) (by kernel_rfl) (by kernel_rfl) h
  rcases l with _ | ⟨c0, l⟩
  · simp at hl
  rcases l with _ | ⟨c1, l⟩
  · simp at hl
  rcases l with _ | ⟨c2, l⟩
  · simp at hl
  rcases l with _ | ⟨c3, l⟩
  · simp at hl
  rcases l with _ | ⟨x, l⟩
  case cons => simp at hl
  obtain ⟨p0, rfl, k0⟩ := cell_int Tryz.underlying2 (hc 0 _ _ rfl rfl)
  obtain ⟨p1, rfl, k1⟩ := cell_int Tryz.underlying22 (hc 1 _ _ rfl rfl)
  obtain ⟨p2, rfl, k2⟩ := cell_int Tryz.underlying2 (hc 2 _ _ rfl rfl)
  obtain ⟨p3, rfl, k3⟩ := cell_int Tryz.underlying22 (hc 3 _ _ rfl rfl)
  simp [IntKind.has, IntKind.min, IntKind.max, IntKind.bits, IntKind.signed] at k0 k1 k2 k3
  exact ⟨p0, p1, p2, p3, rfl, by omega, by omega, by omega, by omega, by omega, by omega, by omega, by omega⟩
set_option maxRecDepth 100000 in
theorem open_q {w : World} {r : Reach} {base : Nat} {v : Value} (h : Value.okWide Tryz.prog w r base 46 v) : ∃ q0 q1 : Int, v = .agg #[.int .i64 q0, .int .u32 q1] ∧ -9223372036854775808 ≤ q0 ∧ q0 ≤ 9223372036854775807 ∧ 0 ≤ q1 ∧ q1 ≤ 4294967295 := by
  obtain ⟨l, rfl, hl, hc⟩ := row_open (ts := [2, 22]) (.inl ⟨_, Tryz.underlying46⟩) (by kernel_rfl) (by kernel_rfl) h
  rcases l with _ | ⟨c0, l⟩
  · simp at hl
  rcases l with _ | ⟨c1, l⟩
  · simp at hl
  rcases l with _ | ⟨x, l⟩
  case cons => simp at hl
  obtain ⟨q0, rfl, k0⟩ := cell_int Tryz.underlying2 (hc 0 _ _ rfl rfl)
  obtain ⟨q1, rfl, k1⟩ := cell_int Tryz.underlying22 (hc 1 _ _ rfl rfl)
  simp [IntKind.has, IntKind.min, IntKind.max, IntKind.bits, IntKind.signed] at k0 k1
  exact ⟨q0, q1, rfl, by omega, by omega, by omega, by omega⟩
end Go.Proofs.YtpcfncbcpknobaaGreatDoor
