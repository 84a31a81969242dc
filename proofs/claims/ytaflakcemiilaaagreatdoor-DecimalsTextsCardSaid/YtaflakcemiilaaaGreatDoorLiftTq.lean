
/- From a law's walk to its row and card: slices of words, strings, integers; the laid table. No condition. -/
import Derived.Test.YtaflakcemiilaaaGreatDoorPK
import Derived.Test.YtaflakcemiilaaaGreatDoorPJ
import Derived.Test.YtaflakcemiilaaaGreatDoorTie
import Derived.Test.YtaflakcemiilaaaGreatDoorCards
import Derived.OpenShut
import Derived.Lay
import Derived.SevenTiedAt
import Derived.Stop.LaidErr
import Derived.ChangeSame
set_option linter.unusedVariables false
set_option linter.unusedSimpArgs false
namespace Go.Proofs.YtaflakcemiilaaaGreatDoor
open Go.ChangeShapes Go.WideShapes Go.ChangeAt Go.RowKit
theorem tab_of {W : World} (h : laidMetH Tryz.prog Rows.decimalsTextsRow.laid W) : Tab W := by
  rw [MakeChecks.laidMetH_plain _ _ _ (by kernel_rfl)] at h
  have e : (Rows.laid_internal_strconv_uint64pow10 : DataW Unit) = Lib.tabData .u64 Lib.pow10Tab := by kernel_rfl
  have h2 : laidMet Tryz.prog (("internal/strconv.uint64pow10", (Rows.laid_internal_strconv_uint64pow10 : DataW Unit)) :: []) W := by
    first | exact h | exact laidMet.tail h | exact laidMet.tail (laidMet.tail h) | exact laidMet.tail (laidMet.tail (laidMet.tail h))
  rw [e] at h2
  exact Lib.tabIs_of_head (g := 2) (by kernel_rfl) (by kernel_rfl) Tryz.underlying296 Tryz.underlying28 (by kernel_rfl) (by kernel_rfl) h2
theorem u32_wf {n : Int} (h : (Lit.int .u32 n).wf = true) : 0 ≤ n ∧ n < 4294967296 := by
  simp [Lit.wf, IntKind.has, IntKind.min, IntKind.max, IntKind.bits, IntKind.signed] at h
  omega
theorem i64_wf {n : Int} (h : (Lit.int .i64 n).wf = true) : -9223372036854775808 ≤ n ∧ n ≤ 9223372036854775807 := by
  simp [Lit.wf, IntKind.has, IntKind.min, IntKind.max, IntKind.bits, IntKind.signed] at h
  omega
set_option maxRecDepth 100000 in
theorem words_core {H : Type} {enc : TypeId × Value → H} {W : World} {fuel : Nat} {c : Value} {x : DataW H × List MemPlace}
    (hf : DataW.trod enc Tryz.prog W 0 (fun _ => true) true fuel 73 [c] = some x) : ∃ k f, Hid (Wa W c k f) ∧ Hid (∀ i, i < k → f i < 4294967296) := by
  rcases open_ints Tryz.underlying73 Tryz.underlying22 (by kernel_rfl) hf with ⟨hcs, hx⟩ | ⟨a, len', cap', zs, hcs, _, hl, hm, hz, hx, hcell, hwz⟩
  · simp at hcs
    subst hcs
    exact ⟨0, fun _ => 0, Lib.hid (.inl ⟨_, _, rfl, rfl⟩), Lib.hid (fun i hi => absurd hi (Nat.not_lt_zero _))⟩
  · simp at hcs
    subst hcs
    simp at hz
    rcases Nat.eq_zero_or_pos len' with h0 | h0
    · subst h0
      exact ⟨0, fun _ => 0, Lib.hid (.inl ⟨_, _, rfl, rfl⟩), Lib.hid (fun i hi => absurd hi (Nat.not_lt_zero _))⟩
    · obtain ⟨b, off, rfl, hc⟩ := ints_at hcell (by omega)
      have hw : ∀ i, i < len' → 0 ≤ zs.getD i 0 ∧ zs.getD i 0 < 4294967296 := fun i hi => u32_wf (hwz _ (by
        rw [List.getD, List.getElem?_eq_getElem (by omega : i < zs.length)]
        exact List.getElem_mem _))
      refine ⟨len', fun i => (zs.getD i 0).toNat, Lib.hid (.inr ⟨b, off, cap', rfl, cell_lt (hc 0 (by omega)), fun i hi => ?_⟩), Lib.hid (fun i hi => ?_)⟩
      · rw [hc i (by omega)]
        have := hw i hi
        have e : zs.getD i 0 = (((zs.getD i 0).toNat : Nat) : Int) := by omega
        show some (Value.int .u32 (zs.getD i 0)) = some (Value.int .u32 (((zs.getD i 0).toNat : Nat) : Int))
        rw [← e]
      · have := hw i hi
        show (zs.getD i 0).toNat < 4294967296
        omega
set_option maxRecDepth 100000 in
theorem open_g {H : Type} {enc : TypeId × Value → H} {W : World} {base : Nat} {v : Value} {d : DataW H} {ps : List MemPlace} (hok : Value.okWide Tryz.prog W .any base 77 v)
    (h : DataW.Trod enc Tryz.prog W 0 (fun _ => true) true 77 v d ps) : ∃ b u k f u' k' f', v = .agg #[.bool b, u, u'] ∧ Hid (Wa W u k f) ∧ Hid (∀ i, i < k → f i < 4294967296) ∧ Hid (Wa W u' k' f') ∧ Hid (∀ i, i < k' → f' i < 4294967296) := by
  obtain ⟨cs, rfl, hsz⟩ := okWide_struct Tryz.underlying77 hok
  obtain ⟨fuel, hf⟩ := h
  obtain ⟨y0, y1, n, _, hl, h0, h1⟩ := trod_struct2 Tryz.underlying77 hf
  have hz : cs.toList.length = 3 := hl.trans (by kernel_rfl)
  obtain ⟨l, hcs⟩ : ∃ l, cs.toList = l := ⟨_, rfl⟩
  have hcl : (Value.agg cs).cells.toList = l := hcs
  rw [hcl] at h0 h1
  rw [hcs] at hz
  match l, hz with
  | [c0, c1, c2], _ =>
    have e0 : Tryz.prog.cellsOf 75 = 2 := by kernel_rfl
    have e1 : Tryz.prog.cellsOf 73 = 1 := by kernel_rfl
    have e2 : Tryz.prog.cellsOf 4 = 1 := by kernel_rfl
    simp only [e0, e1, List.drop_zero, List.drop_succ_cons, List.take_succ_cons, List.take_zero] at h0 h1
    obtain ⟨z0, z1, m, _, _, g0, g1⟩ := trod_struct2 Tryz.underlying75 h0
    simp only [e1, e2, List.drop_zero, List.drop_succ_cons, List.take_succ_cons, List.take_zero] at g0 g1
    obtain ⟨b, hb, _⟩ := DataW.trod_bool Tryz.underlying4 g0
    obtain ⟨k, f, hw, hF⟩ := words_core g1
    obtain ⟨k', f', hw', hF'⟩ := words_core h1
    simp at hb
    subst hb
    refine ⟨b, c1, k, f, c2, k', f', ?_, hw, hF, hw', hF'⟩
    congr 1
    exact Array.toList_inj.1 hcs
end Go.Proofs.YtaflakcemiilaaaGreatDoor
