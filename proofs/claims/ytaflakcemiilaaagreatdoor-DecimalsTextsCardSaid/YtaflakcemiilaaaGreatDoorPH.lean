/- A pack of texts: RefI, RefJ, RefM. No condition but those stated. -/
import Derived.Test.YtaflakcemiilaaaGreatDoorPG
import Derived.Test.YtaflakcemiilaaaGreatDoorPC
import Derived.Test.YtaflakcemiilaaaGreatDoorPD
import Derived.Test.YtaflakcemiilaaaGreatDoorPR
set_option linter.unusedVariables false
set_option linter.unusedSimpArgs false
/- gussetref01: OfWords, Pow, Bits. No condition but a bound on lengths. -/
namespace Go.Proofs.YtaflakcemiilaaaGreatDoor
open Go.RowKit
theorem bp_le_tp (k : Nat) : bp k ≤ tp (3 * k) := by
  unfold bp tp
  rw [Nat.pow_mul]
  exact Nat.pow_le_pow_left (by decide) k
theorem tw_wl (n : Nat) : tw n ≤ 3 * wl n := tw_le.2 (Nat.lt_of_lt_of_le (lt_bp_wl n) (bp_le_tp _))
theorem tw_base : tw 4294967296 ≤ 3 := tw_le.2 (by decide)
def upv (f : Nat → Nat) (k j : Nat) : Nat := vl (fun t => f (j + t)) (k - j)
theorem upv_all (f : Nat → Nat) (k : Nat) : upv f k 0 = vl f k := by
  unfold upv
  exact vl_congr fun i _ => by rw [Nat.zero_add]
theorem upv_none (f : Nat → Nat) (k : Nat) : upv f k k = 0 := by unfold upv; rw [Nat.sub_self]; rfl
theorem upv_step (f : Nat → Nat) {k j : Nat} (h : j < k) : upv f k j = upv f k (j + 1) * 4294967296 + f j := by
  unfold upv
  obtain ⟨m, hm⟩ : ∃ m, k - j = m + 1 := ⟨k - j - 1, by omega⟩
  rw [hm, vl_cons, show k - (j + 1) = m by omega, Nat.add_zero]
  have e : vl (fun i => f (j + (i + 1))) m = vl (fun t => f (j + 1 + t)) m := vl_congr fun i _ => by rw [show j + (i + 1) = j + 1 + i by omega]
  rw [e]
  omega
theorem upv_lt {f : Nat → Nat} {k : Nat} (hf : ∀ i, i < k → f i < 4294967296) (j : Nat) : wl (upv f k j) ≤ k := by
  refine Nat.le_trans (wl_le.2 (vl_lt (fun i hi => hf (j + i) (by omega)))) (by omega)
theorem Rn.nil (w : World) : Rn w (.slice none 0 0) 0 := by unfold Rn; rw [tw_zero]; exact Dr.nil _ _ _
def Wa (w : World) (v : Value) (k : Nat) (f : Nat → Nat) : Prop :=
  (∃ ao c, v = .slice ao k c ∧ k = 0) ∨ ∃ b o c, v = .slice (some ⟨b, o, none⟩) k c ∧ b < w.heap.size ∧ ∀ i, i < k → w.cell? ⟨b, o + i, none⟩ = some (.int .u32 ((f i : Nat) : Int))
theorem Wa.gr {w w' : World} {v : Value} {k : Nat} {f : Nat → Nat} (h : Wa w v k f) (hg : Gr w w') : Wa w' v k f := by
  rcases h with h | ⟨b, o, c, rfl, hb, hc⟩
  · exact .inl h
  · exact .inr ⟨b, o, c, rfl, Nat.lt_of_lt_of_le hb hg.size, fun i hi => (Below.cell hg (p := ⟨b, o + i, none⟩) hb).trans (hc i hi)⟩
theorem Wa.slice {w : World} {v : Value} {k : Nat} {f : Nat → Nat} (h : Wa w v k f) : ∃ ao c, v = .slice ao k c := by
  rcases h with ⟨ao, c, rfl, _⟩ | ⟨b, o, c, rfl, _⟩
  · exact ⟨_, _, rfl⟩
  · exact ⟨_, _, rfl⟩
set_option maxRecDepth 20000 in
set_option maxHeartbeats 2000000 in
theorem rofw_any (v : Value) (k : Nat) (f : Nat → Nat) (w : World) (hk : k ≤ 1000000) (h : Wa w v k f) (hf : ∀ i, i < k → f i < 4294967296) :
    Calls Tryz.prog 231 #[v] w fun e w' => (∃ v', e = .returned v' ∧ Rn w' v' (vl f k)) ∧ Below w.heap.size w w' := by
  have HF := Lib.hid hf
  have HW := Lib.hid h
  obtain ⟨ao, c, rfl⟩ := h.slice
  clear hf h
  go_enter Tryz.func231, Tryz.ntmps231
  go_wp2_with fail
  go_loopg [3, 4] k (fun j u i wr => i = .int .i64 ((j : Int) - 1) ∧ j ≤ k ∧ Hid (Rn wr u (upv f k j)) ∧ Hid (Gr w wr))
  case atStart => exact ⟨rfl, Nat.le_refl _, Lib.hid (by rw [upv_none]; exact Rn.nil w), Lib.hid (Gr.refl _)⟩
  case round =>
    obtain ⟨rfl, hj, HR, HG⟩ := hrel
    by_cases h0 : gk = 0
    · subst h0
      have HV : Hid (Rn wr u3 (vl f k)) := Lib.hid (by rw [← upv_all]; exact HR.out)
      go_wp2_with fail
      go_ret
      exact ⟨⟨_, rfl, HV.out⟩, HG.out⟩
    · obtain ⟨j, rfl⟩ : ∃ j, gk = j + 1 := ⟨gk - 1, by omega⟩
      have hj2 : ((j + 1 : Nat) : Int) - 1 = (j : Int) := by omega
      rw [hj2]
      rcases HW.out with ⟨_, _, _, h⟩ | ⟨b, o, c2, hv, hb, hcell⟩
      · omega
      injection hv with hv1 _ hv3
      subst hv1 hv3
      obtain ⟨d, hd⟩ : ∃ d, f j = d := ⟨_, rfl⟩
      have hd2 : d < 4294967296 := by rw [← hd]; exact HF.out j (by omega)
      have hc : ∀ w', Gr wr w' → w'.cell? ⟨b, o + j, none⟩ = some (.int .u32 (d : Int)) := fun w' hw => by
        rw [← hd, ← hcell j (by omega)]
        exact Below.cell (HG.out.trans hw) (p := ⟨b, o + j, none⟩) hb
      go_wp2_with fail
      have HC := Lib.hid hc
      have HBW : Hid (tw (upv f k (j + 1)) ≤ 3000000) := Lib.hid (Nat.le_trans (tw_wl _) (by have := upv_lt HF.out (j + 1); omega))
      obtain ⟨x, hx⟩ : ∃ x, upv f k (j + 1) = x := ⟨_, rfl⟩
      rw [hx] at HR HBW
      have HX := Lib.hid hx
      have hst := upv_step f (show j < k by omega)
      rw [hx, hd] at hst
      have HST := Lib.hid hst
      clear hx hst hcell hc HW
      refine wp_region_plan 10 [] [] (fun _ => 0) (fun _ => .cells #[] 0) [(true, 0), (true, 3), (true, 4), (true, 5), (true, 6), (true, 7), (false, 1), (false, 2), (false, 8), (false, 9)] (by kernel_rfl) (by kernel_rfl) (fun i hi => by cases hi) (fun i hi => by cases hi) (fun _ _ _ _ _ h => h) (fun T hT => ?_)
      have lx := HC.out
      have hjk : j < k := by omega
      have hwr : IntKind.u64.wrap (d : Int) = (d : Int) := by rw [IntKind.wrap_u64]; omega
      iterate 6
        refine wpPlan_takeL (v := ?_) rfl (by rfl) (fun w' hw => ?_) ?_
        rotate_left
        · go_simp
          with_reducible rfl
        simp only [Act.put, List.setIfInBounds_toArray, List.set_cons_zero, List.set_cons_succ]
      refine wpPlan_callE rfl (by rfl) Tryz.call176 (by rfl) (fun w' hw => (rof_any 4294967296 _ (by decide)).mono ?_)
      rintro e vv1 ⟨⟨rv1, rfl, R1⟩, hg0⟩
      refine ⟨_, rfl, hg0, ?_⟩
      have HG1 := Lib.hid (Gr.trans hw hg0); clear hw hg0
      have HR1 := Lib.hid R1; clear R1
      simp only [Act.put, List.setIfInBounds_toArray, List.set_cons_zero, List.set_cons_succ]
      refine wpPlan_callE rfl (by rfl) Tryz.call175 (by rfl) (fun w' hw => (rmul_any _ _ x 4294967296 _ (HR.out.gr (HG1.out.trans hw)) (HR1.out.gr hw) (by have := HBW.out; omega) (by have := tw_base; omega)).mono ?_)
      rintro e vv2 ⟨⟨rv2, rfl, R2⟩, hg0⟩
      refine ⟨_, rfl, hg0, ?_⟩
      have HG2 := Lib.hid (HG1.out.trans (Gr.trans hw hg0)); clear hw hg0 HG1 HR1
      have HR2 := Lib.hid R2; clear R2
      simp only [Act.put, List.setIfInBounds_toArray, List.set_cons_zero, List.set_cons_succ]
      refine wpPlan_callE rfl (by rfl) Tryz.call176 (by rfl) (fun w' hw => (rof_any d _ (by omega)).mono ?_)
      rintro e vv3 ⟨⟨rv3, rfl, R3⟩, hg0⟩
      refine ⟨_, rfl, hg0, ?_⟩
      have HG3 := Lib.hid (HG2.out.trans (Gr.trans hw hg0))
      have HR2' := Lib.hid (HR2.out.gr (Gr.trans hw hg0)); clear hw hg0 HG2 HR2
      have HR3 := Lib.hid R3; clear R3
      simp only [Act.put, List.setIfInBounds_toArray, List.set_cons_zero, List.set_cons_succ]
      refine wpPlan_callE rfl (by rfl) Tryz.call212 (by rfl) (fun w' hw => (radd_any _ _ (x * 4294967296) d _ (HR2'.out.gr hw) (HR3.out.gr hw) (by have := HBW.out; have := tw_mul x 4294967296; have := tw_base; omega) (by have := tw_base; have := tw_mono (show d ≤ 4294967296 by omega); omega)).mono ?_)
      rintro e vv4 ⟨⟨rv4, rfl, R4⟩, hg0⟩
      refine ⟨_, rfl, hg0, ?_⟩
      have HG4 := Lib.hid (HG3.out.trans (Gr.trans hw hg0)); clear hw hg0 HG3 HR3 HR2'
      have HR4 := Lib.hid (show Rn vv4 rv4 (upv f k j) by rw [HST.out]; exact R4); clear R4
      simp only [Act.put, List.setIfInBounds_toArray, List.set_cons_zero, List.set_cons_succ]
      refine wpPlan_nil (hT.out _ _ ?_); clear hT T
      intro G vw1 hg hf
      simp only [puts, Act.put, List.setIfInBounds_toArray, List.set_cons_zero, List.set_cons_succ, List.drop_succ_cons, List.drop_zero, ↓reduceIte, Nat.reduceEqDiff]
      have HG5 := Lib.hid (HG4.out.trans hg)
      have HR5 := Lib.hid (HR4.out.gr hg)
      clear hg hf HG4 HR4 HC lx
      go_wp2_with fail
      go_roundg j
      case measure => omega
      case rel => exact ⟨rfl, by omega, HR5, Lib.hid (HG.out.trans HG5.out)⟩
end Go.Proofs.YtaflakcemiilaaaGreatDoor
/- gussetref01: Pow, Bits. No condition but a bound on lengths. -/
namespace Go.Proofs.YtaflakcemiilaaaGreatDoor
open Go.RowKit
theorem nb_tw (n : Nat) : nb n ≤ 14 * tw n := by
  rw [nb_le]
  refine Nat.lt_of_lt_of_le (lt_tp_tw n) ?_
  unfold tp
  rw [Nat.pow_mul]
  exact Nat.pow_le_pow_left (by decide) _
end Go.Proofs.YtaflakcemiilaaaGreatDoor
/- gussetref01.Sqrt. No condition but a bound on lengths. -/
namespace Go.Proofs.YtaflakcemiilaaaGreatDoor
open Go.RowKit
def RootAt (w : World) (r n g j : Nat) (wr : World) : Prop :=
  Dr wr w.heap.size (.slice (some ⟨g, 0, none⟩) n n) n (fun t => if t < j then 0 else tg r t) ∧ Below w.heap.size w wr ∧ g < wr.heap.size
theorem RootAt.next {w wr : World} {r n g j d : Nat} (hgw : w.heap.size ≤ g) (h : RootAt w r n g (j + 1) wr) (hd : tg r j = d) (hj : j < n) : RootAt w r n g j (wr.setCell ⟨g, j, none⟩ (.int .i64 ((d : Nat) : Int))) := by
  refine ⟨(h.1.store j d hj).congr fun i hi => ?_, h.2.1.setCell hgw _, by simpa using h.2.2⟩
  by_cases e : i = j
  · subst e; simp [hd]
  · by_cases e2 : i < j
    · simp [e, e2, show i < j + 1 by omega]
    · simp [e, e2, show ¬ i < j + 1 by omega]
end Go.Proofs.YtaflakcemiilaaaGreatDoor
