
/- From a law's walk to its row and card: slices of words, strings, integers; the laid table. No condition. -/
import Derived.Test.YtobojnodohjiaaaGreatDoorPK
import Derived.Test.YtobojnodohjiaaaGreatDoorPJ
import Derived.Test.YtobojnodohjiaaaGreatDoorTie
import Derived.Test.YtobojnodohjiaaaGreatDoorCards
import Derived.OpenShut
import Derived.Lay
import Derived.SevenTiedAt
import Derived.Stop.LaidErr
import Derived.ChangeSame
namespace Go.Proofs.YtobojnodohjiaaaGreatDoor
open Go.ChangeShapes Go.WideShapes Go.ChangeAt Go.RowKit
set_option linter.unusedSimpArgs false
set_option linter.unusedVariables false
theorem tab_of {W : World} (h : laidMetH Tryz.prog Rows.reconsThereRow.laid W) : Tab W := by
  rw [MakeChecks.laidMetH_plain _ _ _ (by kernel_rfl)] at h
  have e : (Rows.laid_internal_strconv_uint64pow10 : DataW Unit) = Lib.tabData .u64 Lib.pow10Tab := by kernel_rfl
  have h2 : laidMet Tryz.prog (("internal/strconv.uint64pow10", (Rows.laid_internal_strconv_uint64pow10 : DataW Unit)) :: []) W := by
    first | exact h | exact laidMet.tail h | exact laidMet.tail (laidMet.tail h) | exact laidMet.tail (laidMet.tail (laidMet.tail h))
  rw [e] at h2
  exact Lib.tabIs_of_head (g := 2) (by kernel_rfl) (by kernel_rfl) Tryz.underlying322 Tryz.underlying28 (by kernel_rfl) (by kernel_rfl) h2
theorem u32_wf {n : Int} (h : (Lit.int .u32 n).wf = true) : 0 ≤ n ∧ n < 4294967296 := by
  simp [Lit.wf, IntKind.has, IntKind.min, IntKind.max, IntKind.bits, IntKind.signed] at h
  omega
theorem i64_wf {n : Int} (h : (Lit.int .i64 n).wf = true) : -9223372036854775808 ≤ n ∧ n ≤ 9223372036854775807 := by
  simp [Lit.wf, IntKind.has, IntKind.min, IntKind.max, IntKind.bits, IntKind.signed] at h
  omega
set_option maxRecDepth 100000 in
/-- an argument that is a slice of words -/
theorem open_words {H : Type} {enc : TypeId × Value → H} {W : World} {base : Nat} {v : Value} {d : DataW H} {ps : List MemPlace} (hok : Value.okWide Tryz.prog W .any base 79 v)
    (h : DataW.Trod enc Tryz.prog W 0 (fun _ => true) true 79 v d ps) : ∃ k f, Hid (Wa W v k f) ∧ Hid (∀ i, i < k → f i < 4294967296) := by
  obtain ⟨a0, len, cap, rfl⟩ := okWide_slice Tryz.underlying79 hok
  obtain ⟨fuel, hf⟩ := h
  rcases open_ints Tryz.underlying79 Tryz.underlying22 (by kernel_rfl) hf with ⟨hcs, hx⟩ | ⟨a, len', cap', zs, hcs, _, hl, hm, hz, hx, hcell, hwz⟩
  · simp [Value.cells] at hcs
    obtain ⟨rfl, rfl, rfl⟩ := hcs
    exact ⟨0, fun _ => 0, Lib.hid (.inl ⟨_, _, rfl, rfl⟩), Lib.hid (fun i hi => absurd hi (Nat.not_lt_zero _))⟩
  · simp [Value.cells] at hcs
    obtain ⟨rfl, rfl, rfl⟩ := hcs
    simp at hz
    rcases Nat.eq_zero_or_pos len with h0 | h0
    · subst h0
      exact ⟨0, fun _ => 0, Lib.hid (.inl ⟨_, _, rfl, rfl⟩), Lib.hid (fun i hi => absurd hi (Nat.not_lt_zero _))⟩
    · obtain ⟨b, off, rfl, hc⟩ := ints_at hcell (by omega)
      have hw : ∀ i, i < len → 0 ≤ zs.getD i 0 ∧ zs.getD i 0 < 4294967296 := fun i hi => u32_wf (hwz _ (by
        rw [List.getD, List.getElem?_eq_getElem (by omega : i < zs.length)]
        exact List.getElem_mem _))
      refine ⟨len, fun i => (zs.getD i 0).toNat, Lib.hid (.inr ⟨b, off, cap, rfl, cell_lt (hc 0 (by omega)), fun i hi => ?_⟩), Lib.hid (fun i hi => ?_)⟩
      · rw [hc i (by omega)]
        have := hw i hi
        have e : zs.getD i 0 = (((zs.getD i 0).toNat : Nat) : Int) := by omega
        show some (Value.int .u32 (zs.getD i 0)) = some (Value.int .u32 (((zs.getD i 0).toNat : Nat) : Int))
        rw [← e]
      · have := hw i hi
        show (zs.getD i 0).toNat < 4294967296
        omega
set_option maxRecDepth 100000 in
theorem open_q {w : World} {r : Reach} {base : Nat} {v : Value} (h : Value.okWide Tryz.prog w r base 24 v) : ∃ q0 q1 : Int, v = .agg #[.int .i64 q0, .int .u32 q1] ∧ -9223372036854775808 ≤ q0 ∧ q0 ≤ 9223372036854775807 ∧ 0 ≤ q1 ∧ q1 ≤ 4294967295 := by
  obtain ⟨l, rfl, hl, hc⟩ := row_open (ts := [2, 22]) (.inl ⟨_, Tryz.underlying24⟩) (by kernel_rfl) (by kernel_rfl) h
  rcases l with _ | ⟨c0, l⟩
  · simp at hl
  rcases l with _ | ⟨c1, l⟩
  · simp at hl
  rcases l with _ | ⟨x, l⟩
  case cons => simp at hl
  obtain ⟨q0, rfl, k0⟩ := cell_int Tryz.underlying2 (hc 0 _ _ rfl rfl)
  obtain ⟨q1, rfl, k1⟩ := cell_int Tryz.underlying22 (hc 1 _ _ rfl rfl)
  simp [IntKind.has, IntKind.min, IntKind.max, IntKind.bits, IntKind.signed] at k0 k1
  exact ⟨q0, q1, rfl, by omega, by omega, by omega, by omega⟩
set_option maxRecDepth 100000 in
theorem words_core {H : Type} {enc : TypeId × Value → H} {W : World} {fuel : Nat} {c : Value} {x : DataW H × List MemPlace}
    (hf : DataW.trod enc Tryz.prog W 0 (fun _ => true) true fuel 79 [c] = some x) : ∃ k f, Hid (Wa W c k f) ∧ Hid (∀ i, i < k → f i < 4294967296) := by
  rcases open_ints Tryz.underlying79 Tryz.underlying22 (by kernel_rfl) hf with ⟨hcs, hx⟩ | ⟨a, len', cap', zs, hcs, _, hl, hm, hz, hx, hcell, hwz⟩
  · simp at hcs
    subst hcs
    exact ⟨0, fun _ => 0, Lib.hid (.inl ⟨_, _, rfl, rfl⟩), Lib.hid (fun i hi => absurd hi (Nat.not_lt_zero _))⟩
  · simp at hcs
    subst hcs
    simp at hz
    rcases Nat.eq_zero_or_pos len' with h0 | h0
    · subst h0
      exact ⟨0, fun _ => 0, Lib.hid (.inl ⟨_, _, rfl, rfl⟩), Lib.hid (fun i hi => absurd hi (Nat.not_lt_zero _))⟩
    · obtain ⟨b, off, rfl, hc⟩ := ints_at hcell (by omega)
      have hw : ∀ i, i < len' → 0 ≤ zs.getD i 0 ∧ zs.getD i 0 < 4294967296 := fun i hi => u32_wf (hwz _ (by
        rw [List.getD, List.getElem?_eq_getElem (by omega : i < zs.length)]
        exact List.getElem_mem _))
      refine ⟨len', fun i => (zs.getD i 0).toNat, Lib.hid (.inr ⟨b, off, cap', rfl, cell_lt (hc 0 (by omega)), fun i hi => ?_⟩), Lib.hid (fun i hi => ?_)⟩
      · rw [hc i (by omega)]
        have := hw i hi
        have e : zs.getD i 0 = (((zs.getD i 0).toNat : Nat) : Int) := by omega
        show some (Value.int .u32 (zs.getD i 0)) = some (Value.int .u32 (((zs.getD i 0).toNat : Nat) : Int))
        rw [← e]
      · have := hw i hi
        show (zs.getD i 0).toNat < 4294967296
        omega
set_option maxRecDepth 100000 in
/-- an argument that is a sign and a slice of words -/
theorem open_z {H : Type} {enc : TypeId × Value → H} {W : World} {base : Nat} {v : Value} {d : DataW H} {ps : List MemPlace} (hok : Value.okWide Tryz.prog W .any base 81 v)
    (h : DataW.Trod enc Tryz.prog W 0 (fun _ => true) true 81 v d ps) : ∃ b u k f, v = .agg #[.bool b, u] ∧ Hid (Wa W u k f) ∧ Hid (∀ i, i < k → f i < 4294967296) := by
  obtain ⟨cs, rfl, hsz⟩ := okWide_struct Tryz.underlying81 hok
  obtain ⟨fuel, hf⟩ := h
  obtain ⟨y0, y1, n, _, hl, h0, h1⟩ := trod_struct2 Tryz.underlying81 hf
  have hz : cs.toList.length = 2 := hl.trans (by kernel_rfl)
  obtain ⟨l, hcs⟩ : ∃ l, cs.toList = l := ⟨_, rfl⟩
  have hcl : (Value.agg cs).cells.toList = l := hcs
  rw [hcl] at h0 h1
  rw [hcs] at hz
  match l, hz with
  | [c0, c1], _ =>
    have e0 : Tryz.prog.cellsOf 4 = 1 := by kernel_rfl
    have e1 : Tryz.prog.cellsOf 79 = 1 := by kernel_rfl
    simp only [e0, e1, List.drop_zero, List.drop_succ_cons, List.take_succ_cons, List.take_zero] at h0 h1
    obtain ⟨b, hb, _⟩ := DataW.trod_bool Tryz.underlying4 h0
    obtain ⟨k, f, hw, hF⟩ := words_core h1
    simp at hb
    subst hb
    refine ⟨b, c1, k, f, ?_, hw, hF⟩
    congr 1
    exact Array.toList_inj.1 hcs
set_option maxRecDepth 100000 in
/-- an argument that is a sign and two slices of words -/
theorem open_g {H : Type} {enc : TypeId × Value → H} {W : World} {base : Nat} {v : Value} {d : DataW H} {ps : List MemPlace} (hok : Value.okWide Tryz.prog W .any base 83 v)
    (h : DataW.Trod enc Tryz.prog W 0 (fun _ => true) true 83 v d ps) : ∃ b u k f u' k' f', v = .agg #[.bool b, u, u'] ∧ Hid (Wa W u k f) ∧ Hid (∀ i, i < k → f i < 4294967296) ∧ Hid (Wa W u' k' f') ∧ Hid (∀ i, i < k' → f' i < 4294967296) := by
  obtain ⟨cs, rfl, hsz⟩ := okWide_struct Tryz.underlying83 hok
  obtain ⟨fuel, hf⟩ := h
  obtain ⟨y0, y1, n, _, hl, h0, h1⟩ := trod_struct2 Tryz.underlying83 hf
  have hz : cs.toList.length = 3 := hl.trans (by kernel_rfl)
  obtain ⟨l, hcs⟩ : ∃ l, cs.toList = l := ⟨_, rfl⟩
  have hcl : (Value.agg cs).cells.toList = l := hcs
  rw [hcl] at h0 h1
  rw [hcs] at hz
  match l, hz with
  | [c0, c1, c2], _ =>
    have e0 : Tryz.prog.cellsOf 81 = 2 := by kernel_rfl
    have e1 : Tryz.prog.cellsOf 79 = 1 := by kernel_rfl
    have e2 : Tryz.prog.cellsOf 4 = 1 := by kernel_rfl
    simp only [e0, e1, List.drop_zero, List.drop_succ_cons, List.take_succ_cons, List.take_zero] at h0 h1
    obtain ⟨z0, z1, m, _, _, g0, g1⟩ := trod_struct2 Tryz.underlying81 h0
    simp only [e1, e2, List.drop_zero, List.drop_succ_cons, List.take_succ_cons, List.take_zero] at g0 g1
    obtain ⟨b, hb, _⟩ := DataW.trod_bool Tryz.underlying4 g0
    obtain ⟨k, f, hw, hF⟩ := words_core g1
    obtain ⟨k', f', hw', hF'⟩ := words_core h1
    simp at hb
    subst hb
    refine ⟨b, c1, k, f, c2, k', f', ?_, hw, hF, hw', hF'⟩
    congr 1
    exact Array.toList_inj.1 hcs
theorem u16_wf {n : Int} (h : (Lit.int .u16 n).wf = true) : 0 ≤ n ∧ n ≤ 65535 := by
  simp [Lit.wf, IntKind.has, IntKind.min, IntKind.max, IntKind.bits, IntKind.signed] at h
  omega
theorem i16_wf {n : Int} (h : (Lit.int .i16 n).wf = true) : -32768 ≤ n ∧ n ≤ 32767 := by
  simp [Lit.wf, IntKind.has, IntKind.min, IntKind.max, IntKind.bits, IntKind.signed] at h
  omega
section
variable {H : Type} {enc : TypeId × Value → H} {P : Program} {w : World} {base : Nat} {spare : Nat → Bool} {held : Bool}
theorem trodAll_four {t0 t1 t2 t3 : TypeId} {args : Array Value} {ds : List (DataW H)} {ps : List MemPlace} (h : DataW.TrodAll enc P w base spare held [t0, t1, t2, t3] args.toList ds ps) :
    ∃ v0 v1 v2 v3 d0 d1 d2 d3 p0 p1 p2 p3, args = #[v0, v1, v2, v3] ∧ ds = [d0, d1, d2, d3] ∧ ps = p0 ++ p1 ++ p2 ++ p3 ∧ DataW.Trod enc P w base spare held t0 v0 d0 p0 ∧ DataW.Trod enc P w base spare held t1 v1 d1 p1 ∧ DataW.Trod enc P w base spare held t2 v2 d2 p2 ∧ DataW.Trod enc P w base spare held t3 v3 d3 p3 := by
  obtain ⟨v0, va, d0, da, p0, qa, hargs, rfl, rfl, hd0, ha⟩ := trodAll_cons h
  obtain ⟨v1, vb, d1, db, p1, qb, rfl, rfl, rfl, hd1, hb⟩ := trodAll_cons ha
  obtain ⟨v2, vc, d2, dc, p2, qc, rfl, rfl, rfl, hd2, hc⟩ := trodAll_cons hb
  obtain ⟨v3, vd, d3, dd, p3, qd, rfl, rfl, rfl, hd3, hd⟩ := trodAll_cons hc
  obtain ⟨rfl, rfl, rfl⟩ := trodAll_nil hd
  exact ⟨v0, v1, v2, v3, d0, d1, d2, d3, p0, p1, p2, p3, by cases args; simp_all, rfl, by simp, hd0, hd1, hd2, hd3⟩
theorem trodAll_mk4 {t0 t1 t2 t3 : TypeId} {v0 v1 v2 v3 : Value} {d0 d1 d2 d3 : DataW H} {p0 p1 p2 p3 : List MemPlace} (h0 : DataW.Trod enc P w base spare held t0 v0 d0 p0) (h1 : DataW.Trod enc P w base spare held t1 v1 d1 p1)
    (h2 : DataW.Trod enc P w base spare held t2 v2 d2 p2) (h3 : DataW.Trod enc P w base spare held t3 v3 d3 p3) : DataW.TrodAll enc P w base spare held [t0, t1, t2, t3] [v0, v1, v2, v3] [d0, d1, d2, d3] (p0 ++ (p1 ++ (p2 ++ p3))) := ⟨p0, p1 ++ (p2 ++ p3), h0, trodAll_mk3 h1 h2 h3, rfl⟩
end
end Go.Proofs.YtobojnodohjiaaaGreatDoor
