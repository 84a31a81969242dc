
/- From a law's walk to its row and card: slices of words, strings, integers; the laid table. No condition. -/
import Derived.Test.YtobojnodohjiaaaGreatDoorPK
import Derived.Test.YtobojnodohjiaaaGreatDoorPJ
import Derived.Test.YtobojnodohjiaaaGreatDoorTie
import Derived.Test.YtobojnodohjiaaaGreatDoorCards
import Derived.OpenShut
import Derived.Lay
import Derived.SevenTiedAt
import Derived.Stop.LaidErr
import Derived.ChangeSame
import Derived.Test.YtobojnodohjiaaaGreatDoorQs
namespace Go.Proofs.YtobojnodohjiaaaGreatDoor
open Go.ChangeShapes Go.WideShapes Go.ChangeAt Go.RowKit
set_option linter.unusedSimpArgs false
set_option linter.unusedVariables false
theorem tab_of {W : World} (h : laidMetH Tryz.prog Rows.reconsChineseRow.laid W) : Tab W := by
  rw [MakeChecks.laidMetH_plain _ _ _ (by kernel_rfl)] at h
  have e : (Rows.laid_internal_strconv_uint64pow10 : DataW Unit) = Lib.tabData .u64 Lib.pow10Tab := by kernel_rfl
  have h2 : laidMet Tryz.prog (("internal/strconv.uint64pow10", (Rows.laid_internal_strconv_uint64pow10 : DataW Unit)) :: []) W := by
    first | exact h | exact laidMet.tail h | exact laidMet.tail (laidMet.tail h) | exact laidMet.tail (laidMet.tail (laidMet.tail h))
  rw [e] at h2
  exact Lib.tabIs_of_head (g := 2) (by kernel_rfl) (by kernel_rfl) Tryz.underlying322 Tryz.underlying28 (by kernel_rfl) (by kernel_rfl) h2
theorem u32_wf {n : Int} (h : (Lit.int .u32 n).wf = true) : 0 ≤ n ∧ n < 4294967296 := by
  simp [Lit.wf, IntKind.has, IntKind.min, IntKind.max, IntKind.bits, IntKind.signed] at h
  omega
theorem i64_wf {n : Int} (h : (Lit.int .i64 n).wf = true) : -9223372036854775808 ≤ n ∧ n ≤ 9223372036854775807 := by
  simp [Lit.wf, IntKind.has, IntKind.min, IntKind.max, IntKind.bits, IntKind.signed] at h
  omega
set_option maxRecDepth 100000 in
/-- an argument that is a slice of words -/
theorem open_words {H : Type} {enc : TypeId × Value → H} {W : World} {base : Nat} {v : Value} {d : DataW H} {ps : List MemPlace} (hok : Value.okWide Tryz.prog W .any base 79 v)
    (h : DataW.Trod enc Tryz.prog W 0 (fun _ => true) true 79 v d ps) : ∃ k f, Hid (Wa W v k f) ∧ Hid (∀ i, i < k → f i < 4294967296) := by
  obtain ⟨a0, len, cap, rfl⟩ := okWide_slice Tryz.underlying79 hok
  obtain ⟨fuel, hf⟩ := h
  rcases open_ints Tryz.underlying79 Tryz.underlying22 (by kernel_rfl) hf with ⟨hcs, hx⟩ | ⟨a, len', cap', zs, hcs, _, hl, hm, hz, hx, hcell, hwz⟩
  · simp [Value.cells] at hcs
    obtain ⟨rfl, rfl, rfl⟩ := hcs
    exact ⟨0, fun _ => 0, Lib.hid (.inl ⟨_, _, rfl, rfl⟩), Lib.hid (fun i hi => absurd hi (Nat.not_lt_zero _))⟩
  · simp [Value.cells] at hcs
    obtain ⟨rfl, rfl, rfl⟩ := hcs
    simp at hz
    rcases Nat.eq_zero_or_pos len with h0 | h0
    · subst h0
      exact ⟨0, fun _ => 0, Lib.hid (.inl ⟨_, _, rfl, rfl⟩), Lib.hid (fun i hi => absurd hi (Nat.not_lt_zero _))⟩
    · obtain ⟨b, off, rfl, hc⟩ := ints_at hcell (by omega)
      have hw : ∀ i, i < len → 0 ≤ zs.getD i 0 ∧ zs.getD i 0 < 4294967296 := fun i hi => u32_wf (hwz _ (by
        rw [List.getD, List.getElem?_eq_getElem (by omega : i < zs.length)]
        exact List.getElem_mem _))
      refine ⟨len, fun i => (zs.getD i 0).toNat, Lib.hid (.inr ⟨b, off, cap, rfl, cell_lt (hc 0 (by omega)), fun i hi => ?_⟩), Lib.hid (fun i hi => ?_)⟩
      · rw [hc i (by omega)]
        have := hw i hi
        have e : zs.getD i 0 = (((zs.getD i 0).toNat : Nat) : Int) := by omega
        show some (Value.int .u32 (zs.getD i 0)) = some (Value.int .u32 (((zs.getD i 0).toNat : Nat) : Int))
        rw [← e]
      · have := hw i hi
        show (zs.getD i 0).toNat < 4294967296
        omega
set_option maxRecDepth 100000 in
/-- an argument that is a slice of pairs -/
theorem open_rq {H : Type} {enc : TypeId × Value → H} {W : World} {base : Nat} {v : Value} {d : DataW H} {ps : List MemPlace} (hok : Value.okWide Tryz.prog W .any base 66 v)
    (h : DataW.Trod enc Tryz.prog W 0 (fun _ => true) true 66 v d ps) : ∃ n N D, Hid (Qs W v n N D) ∧ Hid (Qb n N D) := by
  obtain ⟨a0, len, cap, rfl⟩ := okWide_slice Tryz.underlying66 hok
  obtain ⟨fuel, hf⟩ := h
  have e2 : Tryz.prog.cellsOf 69 = 2 := by kernel_rfl
  have e0 : Tryz.prog.cellsOf 2 = 1 := by kernel_rfl
  have e1 : Tryz.prog.cellsOf 22 = 1 := by kernel_rfl
  rcases DataW.trod_slice Tryz.underlying66 hf with ⟨hcs, _⟩ | ⟨a, len', cap', elems, rest, m, _, hcs, _, _, hl, _, hlen, hel, _⟩
  · simp [Value.cells] at hcs
    obtain ⟨rfl, rfl, rfl⟩ := hcs
    exact ⟨0, fun _ => 0, fun _ => 0, Lib.hid (.inl ⟨_, _, rfl, rfl⟩), Lib.hid (fun i hi => absurd hi (Nat.not_lt_zero _))⟩
  · simp [Value.cells] at hcs
    obtain ⟨rfl, rfl, rfl⟩ := hcs
    have key : ∀ i, i < len → ∃ x y : Int, W.cell? (a.add (i * 2)) = some (.int .i64 x) ∧ W.cell? ((a.add (i * 2)).add 1) = some (.int .u32 y) ∧ -9223372036854775808 ≤ x ∧ x ≤ 9223372036854775807 ∧ 0 ≤ y ∧ y ≤ 4294967295 := by
      intro i hi
      have hE := hel i hi
      rw [e2, List.getElem?_eq_getElem (by omega)] at hE
      obtain ⟨c, hc, hy⟩ := Option.bind_eq_some_iff.1 hE
      have ea : (a.add (i * 2)).add 0 = a.add (i * 2) := by simp [Addr.add]
      unfold World.cells? at hc
      rw [if_pos (Nat.zero_le _)] at hc
      simp only [List.range_succ, List.range_zero, List.nil_append, List.cons_append, List.mapM_cons, List.mapM_nil, ea] at hc
      cases h0 : W.cell? (a.add (i * 2)) with
      | none => simp [h0] at hc
      | some u =>
        cases h1 : W.cell? ((a.add (i * 2)).add 1) with
        | none => simp [h0, h1] at hc
        | some u' =>
          simp [h0, h1] at hc
          subst hc
          obtain ⟨_, _, _, _, _, g0, g1⟩ := trod_struct2 Tryz.underlying69 hy
          simp only [e0, e1, List.drop_zero, List.drop_succ_cons, List.take_succ_cons, List.take_zero] at g0 g1
          obtain ⟨x, hx, _, wx⟩ := DataW.trod_int Tryz.underlying2 g0
          obtain ⟨y, hy', _, wy⟩ := DataW.trod_int Tryz.underlying22 g1
          simp at hx hy'
          subst hx hy'
          have b1 := i64_wf wx
          have b2 := u32_wf wy
          exact ⟨x, y, rfl, rfl, by omega, by omega, by omega, by omega⟩
    rcases Nat.eq_zero_or_pos len with hz | hz
    · subst hz
      exact ⟨0, fun _ => 0, fun _ => 0, Lib.hid (.inl ⟨_, _, rfl, rfl⟩), Lib.hid (fun i hi => absurd hi (Nat.not_lt_zero _))⟩
    · obtain ⟨b, off, spot⟩ := a
      have hspot : spot = none := by
        obtain ⟨x, y, h0, _⟩ := key 0 hz
        simpa [Addr.add] using World.cell?_spot h0
      subst hspot
      have ha : ∀ i, i < len → W.cell? ⟨b, off + i * 2, none⟩ = W.cell? ((⟨b, off, none⟩ : Addr).add (i * 2)) ∧ W.cell? ⟨b, off + i * 2 + 1, none⟩ = W.cell? (((⟨b, off, none⟩ : Addr).add (i * 2)).add 1) := fun i _ => by
        rw [Go.WideShapes.add_plain, Go.WideShapes.add_plain]; exact ⟨rfl, rfl⟩
      refine ⟨len, fun i => match W.cell? ((⟨b, off, none⟩ : Addr).add (i * 2)) with | some (.int _ x) => x | _ => 0, fun i => match W.cell? (((⟨b, off, none⟩ : Addr).add (i * 2)).add 1) with | some (.int _ x) => x | _ => 0, Lib.hid (.inr ⟨b, off, cap, rfl, ?_, fun i hi => ?_⟩), Lib.hid (fun i hi => ?_)⟩
      · obtain ⟨x, y, h0, _⟩ := key 0 hz
        rw [← (ha 0 hz).1] at h0
        exact cell_lt h0
      · obtain ⟨x, y, h0, h1, _⟩ := key i hi
        rw [(ha i hi).1, (ha i hi).2]
        simp only [h0, h1]
        exact ⟨trivial, trivial⟩
      · obtain ⟨x, y, h0, h1, h2⟩ := key i hi
        simp only [h0, h1]
        exact h2
end Go.Proofs.YtobojnodohjiaaaGreatDoor
