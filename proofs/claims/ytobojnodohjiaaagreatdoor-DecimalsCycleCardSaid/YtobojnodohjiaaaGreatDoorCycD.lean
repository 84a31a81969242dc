
/- DecimalsCycle: the law's walk. -/
import Derived.Test.YtobojnodohjiaaaGreatDoorRCyc
import Derived.Test.YtobojnodohjiaaaGreatDoorDecW
import Derived.Test.YtobojnodohjiaaaGreatDoorPL
import Derived.Test.YtobojnodohjiaaaGreatDoorPN
import Derived.Test.YtobojnodohjiaaaGreatDoorIntE
namespace Go.Proofs.YtobojnodohjiaaaGreatDoor
open Go.RowKit
set_option linter.unusedSimpArgs false
set_option linter.unusedVariables false
attribute [local go_sem ↓] Go.wp_at_zero Go.wp_at_succ
attribute [local go_sem ↓] eq_nat eq_nat_zero eq_int eq_frac eq_frac_zero
attribute [local go_sem] Instr.field asAgg
set_option maxRecDepth 100000 in
set_option maxHeartbeats 8000000 in
theorem cycled_law0 (n d : Int) (a : Rat) (c1 c2 c3 : Int) (w : World) (HA0 : Hid (qv n d = a)) (HC : Hid (cyc (a).den = (c1, c2, c3))) (h1 : -9223372036854775808 ≤ n) (h2 : n ≤ 9223372036854775807) (h3 : 0 ≤ d) (h4 : d ≤ 4294967295) (HT : Hid (Tab w)) :
    Calls Tryz.prog 14 #[(Value.agg #[.int .i64 (n), .int .u32 (d)])] w fun e w' => e = .returned (.bool true) ∧ Below w.heap.size w w' := by
  go_enter Tryz.func14, Tryz.ntmps14
  have HF := Lib.hid (hp0 w)
  refine kS fun K hK => ?_
  refine wp_region_lit ?_
  go_wp2
  refine hK.out _ _ ?_; clear hK K
  show Code.wp _ _ _ _ _
  refine fH ((HF.out).al (b := w.heap.size) (by first | rfl | simp) (by decide)) fun Wx0 HG => ?_
  clear HF; have HF := HG; clear HG
  have HZ1 : Hid (qv (n) (d) = a) := Lib.hid (HA0.out)
  have su1 : sz (a) ≤ 4 := by have e := HZ1.out; first | omega | (rw [← e]; exact sz_qv (n) (d) om om om om)
  have lx0 := HF.out.c 0 rfl
  refine kS fun K hK => ?_
  refine sq 10 [(true, 0), (true, 1), (true, 2), (true, 3), (true, 4), (true, 5), (true, 6), (true, 7), (true, 8), (true, 9)] fun T hT => ?_
  refine tk ?_
  refine ck Tryz.call50 (fun w' hw => qv_any (n) (d) (a) _ HZ1.out om om om om) ?_
  refine ck Tryz.call67 (fun w' hw => cycle_any (a) (c1) (c2) (c3) _ (HC.out) om) ?_
  iterate 7 refine tk ?_
  refine nlS hT HF fun vw1 HG => ?_
  clear hT T HF lx0
  go_wp2
  refine hK.out _ _ ?_; clear hK K
  show Code.wp _ _ _ _ _
  have HF := HG; clear HG
  have HZ2 : Hid (qv (n) (d) = a) := Lib.hid (HA0.out)
  have su2 : rz (a) ≤ 10 := by have e := HZ2.out; first | omega | (rw [← e]; exact rz_qv (n) (d) om om om om)
  have lx0 := HF.out.c 0 rfl
  refine kS fun K hK => ?_
  have HG0 : Hid (Gr vw1 vw1) := Lib.hid (Gr.refl _)
  refine sq 10 [(true, 0), (false, 1), (true, 2), (true, 3), (true, 4), (true, 5), (true, 6), (true, 7), (true, 8), (true, 9)] fun T hT => ?_
  refine tk ?_
  refine wpPlan_callE rfl (by rfl) Tryz.call69 (by rfl) (fun w' hw => (rqv_any (n) (d) (a) _ HZ2.out om om om om).mono ?_)
  rintro e vv2 ⟨⟨rv1, rv2, rfl, bx2, bx3⟩, hg0⟩
  obtain ⟨ao1, nn1, cc1, rfl⟩ := Rn.sl bx2
  obtain ⟨ao2, nn2, cc2, rfl⟩ := Rn.sl bx3
  refine ⟨_, rfl, hg0, ?_⟩
  replace hg0 := Gr.trans hw hg0; clear hw
  replace HG0 := Lib.hid (HG0.out.trans hg0)
  have HGS := Lib.hid hg0; clear hg0
  clear HGS
  have RN2 := Lib.hid bx2; clear bx2
  have RN3 := Lib.hid bx3; clear bx3
  clear lx0; have lx0 := fun w' (h : Gr _ w') => HF.out.c 0 rfl w' (HG0.out.trans h)
  simp only [Act.put, lA, lB, lC]
  refine ck Tryz.call68 (fun w' hw => rcycle04 (a) (c1) (c2) (c3) _ _ _ (HC.out) (by omega) (RN2.out.gr hw) (RN3.out.gr hw)) ?_
  iterate 7 refine tk ?_
  refine wpPlan_nil (hT.out _ _ ?_)
  intro vw2 hg
  simp only [puts, Act.put, lA, lB, lC, lD, lE, ↓reduceIte, Nat.reduceEqDiff]
  have HG := Lib.hid (((HF.out.gr (HG0.out.trans hg)).ar (RN2.out.gr hg)).ar (RN3.out.gr hg))
  simp only [List.zip_cons_cons, List.zip_nil_right, List.map_cons, List.map_nil, lF, lG] at HG
  clear hT T HF hg HG0 RN2 RN3 lx0
  go_wp2
  refine hK.out _ _ ?_; clear hK K
  show Code.wp _ _ _ _ _
  refine fH ((((HG.out).er 2).er 1).er 0) fun Wx2 HF => ?_
  clear HG
  have HB := HPb HF
  refine kS fun K hK => ?_
  refine sq 17 [(true, 0), (true, 1), (true, 2), (true, 3), (true, 4), (true, 5), (true, 6), (true, 7), (true, 8), (true, 9), (true, 10), (true, 11), (true, 12), (true, 13), (true, 14), (true, 15), (true, 16)] fun T hT => ?_
  iterate 14 refine tk ?_
  refine ck Tryz.call64 (fun w' hw => worksd_any _ (Lib.hid (HT.out.gr (Gr.trans HB.out hw)))) ?_
  iterate 2 refine tk ?_
  refine nlS hT HF fun vw3 HG => ?_
  clear hT T HF HB
  go_wp2
  refine hK.out _ _ ?_; clear hK K
  show Code.wp _ _ _ _ _
  have HF := HG; clear HG
  refine wp_ret ?_
  try simp only [Exit.then, Exit.inBlock]
  exact bodyPost_ret (v := .bool true) (by simp [results, Tryz.results14, go_sem]) rfl ⟨rfl, HF.out.1⟩

theorem cycled_law (n d : Int) (w : World) (h1 : -9223372036854775808 ≤ n) (h2 : n ≤ 9223372036854775807) (h3 : 0 ≤ d) (h4 : d ≤ 4294967295) (HT : Hid (Tab w)) :
    Calls Tryz.prog 14 #[.agg #[.int .i64 n, .int .u32 d]] w fun e w' => e = .returned (.bool true) ∧ Below w.heap.size w w' :=
  cycled_law0 n d _ _ _ _ w (Lib.hid rfl) (Lib.hid rfl) h1 h2 h3 h4 HT

end Go.Proofs.YtobojnodohjiaaaGreatDoor
