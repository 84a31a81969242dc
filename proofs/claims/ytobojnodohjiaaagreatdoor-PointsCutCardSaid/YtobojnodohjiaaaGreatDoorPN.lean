/- A pack of texts: QRef, PRef. No condition but those stated. -/
import Derived.Test.YtobojnodohjiaaaGreatDoorPL
import Derived.Test.YtobojnodohjiaaaGreatDoorPT
import Derived.Test.YtobojnodohjiaaaGreatDoorHp
set_option linter.unusedVariables false
set_option linter.unusedSimpArgs false
/- gussetlaw03.Q.Ref. -/
namespace Go.Proofs.YtobojnodohjiaaaGreatDoor
open Go.RowKit
attribute [local go_sem ↓] Go.wp_at_zero Go.wp_at_succ
theorem rz_quot (n m : Int) (h1 : -9223372036854775808 ≤ n) (h2 : n ≤ 9223372036854775807) (h3 : -9223372036854775808 ≤ m) (h4 : m ≤ 9223372036854775807) : rz ((n : Rat) / (m : Rat)) ≤ 10 := by
  have := rz_div (n : Rat) (m : Rat)
  have := rz_i64 h1 h2
  have := rz_i64 h3 h4
  omega
set_option maxRecDepth 20000 in
set_option maxHeartbeats 4000000 in
theorem rqref0 (n d m : Int) (z : Rat) (w : World) (HM : Hid (max d 1 = m)) (HZ : Hid ((n : Rat) / (m : Rat) = z)) (h1 : -9223372036854775808 ≤ n) (h2 : n ≤ 9223372036854775807) (h3 : 0 ≤ d) (h4 : d ≤ 4294967295)  :
    Calls Tryz.prog 69 #[(Value.agg #[.int .i64 (n), .int .u32 (d)])] w fun e w' => (∃ r1 r2 : Value, e = .returned (.agg #[.bool (decide ((z).num < 0)), r1, r2]) ∧ Rn w' r1 (Int.natAbs ((z).num)) ∧ Rn w' r2 ((z).den - 1)) ∧ Below w.heap.size w w' := by
  have hm0 := HM.out
  have hm1 : 1 ≤ m := by omega
  have hm2 : m ≤ 4294967295 := by omega
  have hwm : IntKind.i64.wrap m = m := by rw [IntKind.wrap_i64]; omega
  go_enter Tryz.func69, Tryz.ntmps69
  have HF := Lib.hid (hp0 w)
  refine kS fun K hK => ?_
  refine wp_region_lit ?_
  go_wp2
  refine kO hK ?_; clear hK K
  refine fH (((HF.out).aL (w.heap.size)).aL (w.heap.size + 1)) fun Wx0 HG => ?_
  clear HF; have HF := HG; clear HG
  generalize w.heap.size + 1 = gx1 at *
  have HZ1 : Hid (((n : Int) : Rat) / ((m : Int) : Rat) = z) := Lib.hid (HZ.out)
  have su1 : rz (z) ≤ 10 := by have e := HZ1.out; first | omega | (rw [← e]; exact rz_quot (n) (m) om om om om)
  have lx0 := HF.out.c 0 rfl
  refine kS fun K hK => ?_
  have HG0 : Hid (Gr Wx0 Wx0) := Lib.hid (Gr.refl _)
  refine sq 7 [(true, 0), (true, 1), (true, 2), (true, 3), (true, 4), (true, 5), (false, 6)] fun T hT => ?_
  iterate 6 refine tk ?_
  refine wpPlan_callE rfl (by rfl) Tryz.call180 (by rfl) (fun w' hw => (qof_ref (n) (m) (z) _ HZ1.out om om om om).mono ?_)
  rintro e vv3 ⟨⟨rv1, rv2, rfl, bx3, bx4⟩, hg0⟩
  obtain ⟨ao1, nn1, cc1, rfl⟩ := Rn.sl bx3
  obtain ⟨ao2, nn2, cc2, rfl⟩ := Rn.sl bx4
  refine ⟨_, rfl, hg0, ?_⟩
  replace hg0 := Gr.trans hw hg0; clear hw
  replace HG0 := Lib.hid (HG0.out.trans hg0)
  have HGS := Lib.hid hg0; clear hg0
  clear HGS
  have RN3 := Lib.hid bx3; clear bx3
  have RN4 := Lib.hid bx4; clear bx4
  clear lx0; have lx0 := fun w' (h : Gr _ w') => HF.out.c 0 rfl w' (HG0.out.trans h)
  simp only [Act.put, lA, lB, lC]
  refine wpPlan_nil (hT.out _ _ ?_)
  intro vw1 hg
  simp only [puts, Act.put, lA, lB, lC, lD, lE, ↓reduceIte, Nat.reduceEqDiff]
  have HG := Lib.hid (((HF.out.gr (HG0.out.trans hg)).ar (RN3.out.gr hg)).ar (RN4.out.gr hg))
  simp only [zq1_, zq2_, zq3_, zq4_, lF, lG] at HG
  clear hT T HF hg HG0 RN3 RN4 lx0
  have lx1 := HG.out.c 1 rfl; have fx1 := HG.out.f 1 rfl
  have r0 := Gr.refl vw1
  go_wp2
  refine kO hK ?_; clear hK K
  clear r0 lx1 fx1
  refine fH ((((HG.out).put2 1 0 rfl).put 1 2 _ rfl).er 0) fun Wx1 HF => ?_
  clear HG
  refine wp_ret ?_
  try simp only [Exit.then, Exit.inBlock]
  have lx1 := HF.out.c 0 rfl
  have r0 := Gr.refl Wx1
  exact bodyPost_ret (v := .agg #[.bool (decide ((z).num < 0)), (.slice ao1 nn1 cc1), (.slice ao2 nn2 cc2)]) (by simp [results, Tryz.results69, go_sem, lx1 _ r0]) rfl ⟨⟨(.slice ao1 nn1 cc1), (.slice ao2 nn2 cc2), rfl, (HF.out.rn 1 rfl), (HF.out.rn 2 rfl)⟩, HF.out.1⟩
theorem rqv_any (n d : Int) (z : Rat) (w : World) (hz : qv n d = z) (h1 : -9223372036854775808 ≤ n) (h2 : n ≤ 9223372036854775807) (h3 : 0 ≤ d) (h4 : d ≤ 4294967295) :
    Calls Tryz.prog 69 #[.agg #[.int .i64 n, .int .u32 d]] w fun e w' => (∃ r1 r2 : Value, e = .returned (.agg #[.bool (decide ((z).num < 0)), r1, r2]) ∧ Rn w' r1 (Int.natAbs ((z).num)) ∧ Rn w' r2 ((z).den - 1)) ∧ Below w.heap.size w w' := rqref0 n d (max d 1) z w (Lib.hid rfl) (Lib.hid hz) h1 h2 h3 h4
theorem rz_qv (n d : Int) (h1 : -9223372036854775808 ≤ n) (h2 : n ≤ 9223372036854775807) (h3 : 0 ≤ d) (h4 : d ≤ 4294967295) : rz (qv n d) ≤ 10 := rz_quot n (max d 1) h1 h2 (by omega) (by omega)
end Go.Proofs.YtobojnodohjiaaaGreatDoor
/- gussetlaw23.P.Ref. -/
namespace Go.Proofs.YtobojnodohjiaaaGreatDoor
open Go.RowKit
attribute [local go_sem ↓] Go.wp_at_zero Go.wp_at_succ
set_option maxRecDepth 20000 in
set_option maxHeartbeats 4000000 in
theorem rpref (n0x d0x n0y d0y : Int) (z1 z2 : Rat) (w : World) (HZ1_ : Hid (qv n0x d0x = z1)) (HZ2_ : Hid (qv n0y d0y = z2)) (h1_0x : -9223372036854775808 ≤ n0x) (h2_0x : n0x ≤ 9223372036854775807) (h3_0x : 0 ≤ d0x) (h4_0x : d0x ≤ 4294967295) (h1_0y : -9223372036854775808 ≤ n0y) (h2_0y : n0y ≤ 9223372036854775807) (h3_0y : 0 ≤ d0y) (h4_0y : d0y ≤ 4294967295)  :
    Calls Tryz.prog 19 #[(Value.agg #[.int .i64 (n0x), .int .u32 (d0x), .int .i64 (n0y), .int .u32 (d0y)])] w fun e w' => (∃ r1 r2 r3 r4 : Value, e = .returned (.agg #[.bool (decide ((z1).num < 0)), r1, r2, .bool (decide ((z2).num < 0)), r3, r4]) ∧ Rn w' r1 (Int.natAbs ((z1).num)) ∧ Rn w' r2 ((z1).den - 1) ∧ Rn w' r3 (Int.natAbs ((z2).num)) ∧ Rn w' r4 ((z2).den - 1)) ∧ Below w.heap.size w w' := by
  go_enter Tryz.func19, Tryz.ntmps19
  have HF := Lib.hid (hp0 w)
  refine kS fun K hK => ?_
  refine wp_region_lit ?_
  go_wp2
  refine kO hK ?_; clear hK K
  refine fH (((HF.out).aL (w.heap.size)).aL (w.heap.size + 1)) fun Wx0 HG => ?_
  clear HF; have HF := HG; clear HG
  generalize w.heap.size + 1 = gx1 at *
  have HZ1 : Hid (qv (n0x) (d0x) = z1) := Lib.hid (HZ1_.out)
  have su1 : rz (z1) ≤ 10 := by have e := HZ1.out; first | omega | (rw [← e]; exact rz_qv (n0x) (d0x) om om om om)
  have HZ2 : Hid (qv (n0y) (d0y) = z2) := Lib.hid (HZ2_.out)
  have su2 : rz (z2) ≤ 10 := by have e := HZ2.out; first | omega | (rw [← e]; exact rz_qv (n0y) (d0y) om om om om)
  have lx0 := HF.out.c 0 rfl
  refine kS fun K hK => ?_
  have HG0 : Hid (Gr Wx0 Wx0) := Lib.hid (Gr.refl _)
  refine pd 7 [(true, 0), (true, 1), (true, 3), (true, 4), (false, 2), (false, 5), (true, 6)] fun T hT => ?_
  iterate 4 refine tk ?_
  refine wpPlan_callE rfl (by rfl) Tryz.call69 (by rfl) (fun w' hw => (rqv_any (n0x) (d0x) (z1) _ HZ1.out om om om om).mono ?_)
  rintro e vv3 ⟨⟨rv1, rv2, rfl, bx3, bx4⟩, hg0⟩
  obtain ⟨ao1, nn1, cc1, rfl⟩ := Rn.sl bx3
  obtain ⟨ao2, nn2, cc2, rfl⟩ := Rn.sl bx4
  refine ⟨_, rfl, hg0, ?_⟩
  replace hg0 := Gr.trans hw hg0; clear hw
  replace HG0 := Lib.hid (HG0.out.trans hg0)
  have HGS := Lib.hid hg0; clear hg0
  clear HGS
  have RN3 := Lib.hid bx3; clear bx3
  have RN4 := Lib.hid bx4; clear bx4
  clear lx0; have lx0 := fun w' (h : Gr _ w') => HF.out.c 0 rfl w' (HG0.out.trans h)
  simp only [Act.put, lA, lB, lC]
  refine wpPlan_callE rfl (by rfl) Tryz.call69 (by rfl) (fun w' hw => (rqv_any (n0y) (d0y) (z2) _ HZ2.out om om om om).mono ?_)
  rintro e vv5 ⟨⟨rv3, rv4, rfl, bx5, bx6⟩, hg0⟩
  obtain ⟨ao3, nn3, cc3, rfl⟩ := Rn.sl bx5
  obtain ⟨ao4, nn4, cc4, rfl⟩ := Rn.sl bx6
  refine ⟨_, rfl, hg0, ?_⟩
  replace hg0 := Gr.trans hw hg0; clear hw
  replace HG0 := Lib.hid (HG0.out.trans hg0)
  have HGS := Lib.hid hg0; clear hg0
  replace RN3 := Lib.hid (RN3.out.gr HGS.out)
  replace RN4 := Lib.hid (RN4.out.gr HGS.out)
  clear HGS
  have RN5 := Lib.hid bx5; clear bx5
  have RN6 := Lib.hid bx6; clear bx6
  clear lx0; have lx0 := fun w' (h : Gr _ w') => HF.out.c 0 rfl w' (HG0.out.trans h)
  simp only [Act.put, lA, lB, lC]
  refine tk ?_
  refine wpPlan_nil (hT.out _ _ ?_)
  intro G vw1 hg hf
  simp only [puts, Act.put, lA, lB, lC, lD, lE, ↓reduceIte, Nat.reduceEqDiff]
  have HG := Lib.hid (((((HF.out.gr (HG0.out.trans hg)).ar (RN3.out.gr hg)).ar (RN4.out.gr hg)).ar (RN5.out.gr hg)).ar (RN6.out.gr hg))
  simp only [zq1_, zq2_, zq3_, zq4_, lF, lG] at HG
  clear hT T HF hg hf HG0 RN3 RN4 RN5 RN6 lx0
  have lx1 := HG.out.c 1 rfl; have fx1 := HG.out.f 1 rfl
  have r0 := Gr.refl vw1
  go_wp2
  refine kO hK ?_; clear hK K
  clear r0 lx1 fx1
  refine fH (((((HG.out).put2 1 0 rfl).put2 1 2 rfl).put2 1 4 rfl).er 0) fun Wx1 HF => ?_
  clear HG
  refine wp_ret ?_
  try simp only [Exit.then, Exit.inBlock]
  have lx1 := HF.out.c 0 rfl
  have r0 := Gr.refl Wx1
  exact bodyPost_ret (v := .agg #[.bool (decide ((z1).num < 0)), (.slice ao1 nn1 cc1), (.slice ao2 nn2 cc2), .bool (decide ((z2).num < 0)), (.slice ao3 nn3 cc3), (.slice ao4 nn4 cc4)]) (by simp [results, Tryz.results19, go_sem, lx1 _ r0]) rfl ⟨⟨(.slice ao1 nn1 cc1), (.slice ao2 nn2 cc2), (.slice ao3 nn3 cc3), (.slice ao4 nn4 cc4), rfl, (HF.out.rn 1 rfl), (HF.out.rn 2 rfl), (HF.out.rn 3 rfl), (HF.out.rn 4 rfl)⟩, HF.out.1⟩
end Go.Proofs.YtobojnodohjiaaaGreatDoor
