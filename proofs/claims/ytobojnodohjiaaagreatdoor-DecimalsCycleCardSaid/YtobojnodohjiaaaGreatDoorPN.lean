/- A pack of texts: QRef, PRef. No condition but those stated. -/
import Derived.Test.YtobojnodohjiaaaGreatDoorPL
import Derived.Test.YtobojnodohjiaaaGreatDoorPT
import Derived.Test.YtobojnodohjiaaaGreatDoorHp
set_option linter.unusedVariables false
set_option linter.unusedSimpArgs false

/- gussetlaw03.Q.Ref. -/
namespace Go.Proofs.YtobojnodohjiaaaGreatDoor
open Go.RowKit
set_option linter.unusedSimpArgs false
set_option linter.unusedVariables false
attribute [local go_sem ↓] Go.wp_at_zero Go.wp_at_succ
theorem rz_quot (n m : Int) (h1 : -9223372036854775808 ≤ n) (h2 : n ≤ 9223372036854775807) (h3 : -9223372036854775808 ≤ m) (h4 : m ≤ 9223372036854775807) : rz ((n : Rat) / (m : Rat)) ≤ 10 := by
  have := rz_div (n : Rat) (m : Rat)
  have := rz_i64 h1 h2
  have := rz_i64 h3 h4
  omega

set_option maxRecDepth 20000 in
set_option maxHeartbeats 4000000 in
theorem rqref0 (n d m : Int) (z : Rat) (w : World) (HM : Hid (max d 1 = m)) (HZ : Hid ((n : Rat) / (m : Rat) = z)) (h1 : -9223372036854775808 ≤ n) (h2 : n ≤ 9223372036854775807) (h3 : 0 ≤ d) (h4 : d ≤ 4294967295)  :
    Calls Tryz.prog 69 #[(Value.agg #[.int .i64 (n), .int .u32 (d)])] w fun e w' => (∃ r1 r2 : Value, e = .returned (.agg #[.bool (decide ((z).num < 0)), r1, r2]) ∧ Rn w' r1 (Int.natAbs ((z).num)) ∧ Rn w' r2 ((z).den - 1)) ∧ Below w.heap.size w w' := by
  have hm0 := HM.out
  have hm1 : 1 ≤ m := by omega
  have hm2 : m ≤ 4294967295 := by omega
  have hwm : IntKind.i64.wrap m = m := by rw [IntKind.wrap_i64]; omega
  go_enter Tryz.func69, Tryz.ntmps69
  have HF := Lib.hid (hp0 w)
  refine kS fun K hK => ?_
  refine wp_region_lit ?_
  go_wp2
  refine hK.out _ _ ?_; clear hK K
  show Code.wp _ _ _ _ _
  refine fH (((HF.out).al (b := w.heap.size) (by first | rfl | simp) (by decide)).al (b := w.heap.size + 1) (by first | rfl | simp) (by decide)) fun Wx0 HG => ?_
  clear HF; have HF := HG; clear HG
  generalize w.heap.size + 1 = gx1 at *
  have HZ1 : Hid (((n : Int) : Rat) / ((m : Int) : Rat) = z) := Lib.hid (HZ.out)
  have su1 : rz (z) ≤ 10 := by have e := HZ1.out; first | omega | (rw [← e]; exact rz_quot (n) (m) om om om om)
  have lx0 := HF.out.c 0 rfl
  refine kS fun K hK => ?_
  have HG0 : Hid (Gr Wx0 Wx0) := Lib.hid (Gr.refl _)
  refine sq 7 [(true, 0), (true, 1), (true, 2), (true, 3), (true, 4), (true, 5), (false, 6)] fun T hT => ?_
  iterate 6 refine tk ?_
  refine wpPlan_callE rfl (by rfl) Tryz.call180 (by rfl) (fun w' hw => (qof_ref (n) (m) (z) _ HZ1.out om om om om).mono ?_)
  rintro e vv3 ⟨⟨rv1, rv2, rfl, bx3, bx4⟩, hg0⟩
  obtain ⟨ao1, nn1, cc1, rfl⟩ := Rn.sl bx3
  obtain ⟨ao2, nn2, cc2, rfl⟩ := Rn.sl bx4
  refine ⟨_, rfl, hg0, ?_⟩
  replace hg0 := Gr.trans hw hg0; clear hw
  replace HG0 := Lib.hid (HG0.out.trans hg0)
  have HGS := Lib.hid hg0; clear hg0
  clear HGS
  have RN3 := Lib.hid bx3; clear bx3
  have RN4 := Lib.hid bx4; clear bx4
  clear lx0; have lx0 := fun w' (h : Gr _ w') => HF.out.c 0 rfl w' (HG0.out.trans h)
  simp only [Act.put, lA, lB, lC]
  refine wpPlan_nil (hT.out _ _ ?_)
  intro vw1 hg
  simp only [puts, Act.put, lA, lB, lC, lD, lE, ↓reduceIte, Nat.reduceEqDiff]
  have HG := Lib.hid (((HF.out.gr (HG0.out.trans hg)).ar (RN3.out.gr hg)).ar (RN4.out.gr hg))
  simp only [List.zip_cons_cons, List.zip_nil_right, List.map_cons, List.map_nil, lF, lG] at HG
  clear hT T HF hg HG0 RN3 RN4 lx0
  have lx1 := HG.out.c 1 rfl; have fx1 := HG.out.f 1 rfl
  have r0 := Gr.refl vw1
  go_wp2
  refine hK.out _ _ ?_; clear hK K
  show Code.wp _ _ _ _ _
  clear r0 lx1 fx1
  refine fH ((((HG.out).put2 1 0 rfl).put 1 2 _ rfl).er 0) fun Wx1 HF => ?_
  clear HG
  refine wp_ret ?_
  try simp only [Exit.then, Exit.inBlock]
  have lx1 := HF.out.c 0 rfl
  have r0 := Gr.refl Wx1
  exact bodyPost_ret (v := .agg #[.bool (decide ((z).num < 0)), (.slice ao1 nn1 cc1), (.slice ao2 nn2 cc2)]) (by simp [results, Tryz.results69, go_sem, lx1 _ r0]) rfl ⟨⟨(.slice ao1 nn1 cc1), (.slice ao2 nn2 cc2), rfl, (HF.out.rn 1 rfl), (HF.out.rn 2 rfl)⟩, HF.out.1⟩

theorem rqv_any (n d : Int) (z : Rat) (w : World) (hz : qv n d = z) (h1 : -9223372036854775808 ≤ n) (h2 : n ≤ 9223372036854775807) (h3 : 0 ≤ d) (h4 : d ≤ 4294967295) :
    Calls Tryz.prog 69 #[.agg #[.int .i64 n, .int .u32 d]] w fun e w' => (∃ r1 r2 : Value, e = .returned (.agg #[.bool (decide ((z).num < 0)), r1, r2]) ∧ Rn w' r1 (Int.natAbs ((z).num)) ∧ Rn w' r2 ((z).den - 1)) ∧ Below w.heap.size w w' := rqref0 n d (max d 1) z w (Lib.hid rfl) (Lib.hid hz) h1 h2 h3 h4
theorem rz_qv (n d : Int) (h1 : -9223372036854775808 ≤ n) (h2 : n ≤ 9223372036854775807) (h3 : 0 ≤ d) (h4 : d ≤ 4294967295) : rz (qv n d) ≤ 10 := rz_quot n (max d 1) h1 h2 (by omega) (by omega)

end Go.Proofs.YtobojnodohjiaaaGreatDoor


/- gussetlaw23.P.Ref. -/
namespace Go.Proofs.YtobojnodohjiaaaGreatDoor
open Go.RowKit
set_option linter.unusedSimpArgs false
set_option linter.unusedVariables false
attribute [local go_sem ↓] Go.wp_at_zero Go.wp_at_succ
end Go.Proofs.YtobojnodohjiaaaGreatDoor
