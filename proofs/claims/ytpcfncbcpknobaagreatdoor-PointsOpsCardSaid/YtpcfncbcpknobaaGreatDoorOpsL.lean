
/- PointsOps: the law's walk. -/
import Derived.Test.YtpcfncbcpknobaaGreatDoorRefW3
import Derived.Test.YtpcfncbcpknobaaGreatDoorPS
import Derived.Test.YtpcfncbcpknobaaGreatDoorPN
import Derived.Test.YtpcfncbcpknobaaGreatDoorPL
import Derived.Test.YtpcfncbcpknobaaGreatDoorPX
import Derived.Test.YtpcfncbcpknobaaGreatDoorPlanQ
namespace Go.Proofs.YtpcfncbcpknobaaGreatDoor
open Go.RowKit
set_option linter.unusedSimpArgs false
set_option linter.unusedVariables false
attribute [local go_sem ↓] Go.wp_at_zero Go.wp_at_succ
attribute [local go_sem ↓] eq_nat eq_nat_zero eq_int
set_option maxRecDepth 100000 in
set_option maxHeartbeats 8000000 in
theorem ops_law (n0x d0x n0y d0y n1x d1x n1y d1y n2 d2 : Int) (a1 a2 b1 b2 k : Rat) (lb : Bool) (w : World) (HA0 : Hid (qv n0x d0x = a1)) (HA1 : Hid (qv n0y d0y = a2)) (HA2 : Hid (qv n1x d1x = b1)) (HA3 : Hid (qv n1y d1y = b2)) (HA4 : Hid (qv n2 d2 = k)) (HLB : Hid (plt a1 a2 b1 b2 = lb)) (h1_0x : -9223372036854775808 ≤ n0x) (h2_0x : n0x ≤ 9223372036854775807) (h3_0x : 0 ≤ d0x) (h4_0x : d0x ≤ 4294967295) (h1_0y : -9223372036854775808 ≤ n0y) (h2_0y : n0y ≤ 9223372036854775807) (h3_0y : 0 ≤ d0y) (h4_0y : d0y ≤ 4294967295) (h1_1x : -9223372036854775808 ≤ n1x) (h2_1x : n1x ≤ 9223372036854775807) (h3_1x : 0 ≤ d1x) (h4_1x : d1x ≤ 4294967295) (h1_1y : -9223372036854775808 ≤ n1y) (h2_1y : n1y ≤ 9223372036854775807) (h3_1y : 0 ≤ d1y) (h4_1y : d1y ≤ 4294967295) (h1_2 : -9223372036854775808 ≤ n2) (h2_2 : n2 ≤ 9223372036854775807) (h3_2 : 0 ≤ d2) (h4_2 : d2 ≤ 4294967295) (HT : Hid (Tab w)) :
    Calls Tryz.prog 5 #[(Value.agg #[.int .i64 (n0x), .int .u32 (d0x), .int .i64 (n0y), .int .u32 (d0y)]), (Value.agg #[.int .i64 (n1x), .int .u32 (d1x), .int .i64 (n1y), .int .u32 (d1y)]), (Value.agg #[.int .i64 (n2), .int .u32 (d2)])] w fun e w' => e = .returned (.bool true) ∧ Below w.heap.size w w' := by
  go_enter Tryz.func5, Tryz.ntmps5
  have HF := Lib.hid (hp0 w)
  refine kS fun K hK => ?_
  refine wp_region_lit ?_
  go_wp2
  refine hK.out _ _ ?_; clear hK K
  show Code.wp _ _ _ _ _
  refine fH ((((HF.out).al (b := w.heap.size) (by first | rfl | simp) (by decide)).al (b := w.heap.size + 1) (by first | rfl | simp) (by decide)).al (b := w.heap.size + 1 + 1) (by first | rfl | simp) (by decide)) fun Wx0 HG => ?_
  clear HF; have HF := HG; clear HG
  generalize w.heap.size + 1 + 1 = gx2 at *
  generalize w.heap.size + 1 = gx1 at *
  have HZ1 : Hid (qv (n0x) (d0x) = a1) := Lib.hid (by first | exact ok | exact HA0.out | exact HA1.out | exact HA2.out | exact HA3.out | exact HA4.out | grind)
  have su1 : sz (a1) ≤ 4 := by have e := HZ1.out; first | omega | (rw [← e]; exact sz_qv (n0x) (d0x) om om om om)
  have HZ2 : Hid (qv (n0y) (d0y) = a2) := Lib.hid (by first | exact ok | exact HA0.out | exact HA1.out | exact HA2.out | exact HA3.out | exact HA4.out | grind)
  have su2 : sz (a2) ≤ 4 := by have e := HZ2.out; first | omega | (rw [← e]; exact sz_qv (n0y) (d0y) om om om om)
  have lx0 := HF.out.c 0 rfl
  refine kS fun K hK => ?_
  refine sq 2 [(true, 0), (true, 1)] fun T hT => ?_
  refine tk ?_
  refine ck Tryz.call25 (fun w' hw => pof_any (n0x) (d0x) (n0y) (d0y) (a1) (a2) _ (Lib.hid HZ1.out) (Lib.hid HZ2.out) om om om om om om om om) ?_
  refine nlS hT HF fun vw1 HG => ?_
  clear hT T HF lx0
  go_wp2
  refine hK.out _ _ ?_; clear hK K
  show Code.wp _ _ _ _ _
  refine fH ((HG.out).al (b := vw1.heap.size) (by first | rfl | simp) (by decide)) fun Wx1 HF => ?_
  clear HG
  generalize vw1.heap.size = gx4 at *
  have HZ3 : Hid (qv (n1x) (d1x) = b1) := Lib.hid (by first | exact ok | exact HA0.out | exact HA1.out | exact HA2.out | exact HA3.out | exact HA4.out | grind)
  have su3 : sz (b1) ≤ 4 := by have e := HZ3.out; first | omega | (rw [← e]; exact sz_qv (n1x) (d1x) om om om om)
  have HZ4 : Hid (qv (n1y) (d1y) = b2) := Lib.hid (by first | exact ok | exact HA0.out | exact HA1.out | exact HA2.out | exact HA3.out | exact HA4.out | grind)
  have su4 : sz (b2) ≤ 4 := by have e := HZ4.out; first | omega | (rw [← e]; exact sz_qv (n1y) (d1y) om om om om)
  have lx1 := HF.out.c 1 rfl
  refine kS fun K hK => ?_
  refine sq 2 [(true, 0), (true, 1)] fun T hT => ?_
  refine tk ?_
  refine ck Tryz.call25 (fun w' hw => pof_any (n1x) (d1x) (n1y) (d1y) (b1) (b2) _ (Lib.hid HZ3.out) (Lib.hid HZ4.out) om om om om om om om om) ?_
  refine nlS hT HF fun vw2 HG => ?_
  clear hT T HF lx1
  go_wp2
  refine hK.out _ _ ?_; clear hK K
  show Code.wp _ _ _ _ _
  refine fH ((HG.out).al (b := vw2.heap.size) (by first | rfl | simp) (by decide)) fun Wx2 HF => ?_
  clear HG
  generalize vw2.heap.size = gx5 at *
  have HZ5 : Hid (qv (n0x) (d0x) = a1) := Lib.hid (by first | exact ok | exact HA0.out | exact HA1.out | exact HA2.out | exact HA3.out | exact HA4.out | grind)
  have su5 : rz (a1) ≤ 10 := by have e := HZ5.out; first | omega | (rw [← e]; exact rz_qv (n0x) (d0x) om om om om)
  have HZ6 : Hid (qv (n0y) (d0y) = a2) := Lib.hid (by first | exact ok | exact HA0.out | exact HA1.out | exact HA2.out | exact HA3.out | exact HA4.out | grind)
  have su6 : rz (a2) ≤ 10 := by have e := HZ6.out; first | omega | (rw [← e]; exact rz_qv (n0y) (d0y) om om om om)
  have lx0 := HF.out.c 0 rfl
  refine kS fun K hK => ?_
  have HG0 : Hid (Gr Wx2 Wx2) := Lib.hid (Gr.refl _)
  refine sq 2 [(true, 0), (false, 1)] fun T hT => ?_
  refine tk ?_
  refine wpPlan_callE rfl (by rfl) Tryz.call27 (by rfl) (fun w' hw => (rpref (n0x) (d0x) (n0y) (d0y) (a1) (a2) _ (Lib.hid HZ5.out) (Lib.hid HZ6.out) om om om om om om om om).mono ?_)
  rintro e vv6 ⟨⟨rv1, rv2, rv3, rv4, rfl, bx6, bx7, bx8, bx9⟩, hg0⟩
  obtain ⟨ao1, nn1, cc1, rfl⟩ := Rn.sl bx6
  obtain ⟨ao2, nn2, cc2, rfl⟩ := Rn.sl bx7
  obtain ⟨ao3, nn3, cc3, rfl⟩ := Rn.sl bx8
  obtain ⟨ao4, nn4, cc4, rfl⟩ := Rn.sl bx9
  refine ⟨_, rfl, hg0, ?_⟩
  replace hg0 := Gr.trans hw hg0; clear hw
  replace HG0 := Lib.hid (HG0.out.trans hg0)
  have HGS := Lib.hid hg0; clear hg0
  clear HGS
  have RN6 := Lib.hid bx6; clear bx6
  have RN7 := Lib.hid bx7; clear bx7
  have RN8 := Lib.hid bx8; clear bx8
  have RN9 := Lib.hid bx9; clear bx9
  clear lx0; have lx0 := fun w' (h : Gr _ w') => HF.out.c 0 rfl w' (HG0.out.trans h)
  simp only [Act.put, lA, lB, lC]
  refine wpPlan_nil (hT.out _ _ ?_)
  intro vw3 hg
  simp only [puts, Act.put, lA, lB, lC, lD, lE, ↓reduceIte, Nat.reduceEqDiff]
  have HG := Lib.hid (((((HF.out.gr (HG0.out.trans hg)).ar (RN6.out.gr hg)).ar (RN7.out.gr hg)).ar (RN8.out.gr hg)).ar (RN9.out.gr hg))
  simp only [List.zip_cons_cons, List.zip_nil_right, List.map_cons, List.map_nil, lF, lG] at HG
  clear hT T HF hg HG0 RN6 RN7 RN8 RN9 lx0
  go_wp2
  refine hK.out _ _ ?_; clear hK K
  show Code.wp _ _ _ _ _
  refine fH (((HG.out).al (b := vw3.heap.size) (by first | rfl | simp) (by decide)).er 0) fun Wx3 HF => ?_
  clear HG
  generalize vw3.heap.size = gx10 at *
  have HZ7 : Hid (qv (n1x) (d1x) = b1) := Lib.hid (by first | exact ok | exact HA0.out | exact HA1.out | exact HA2.out | exact HA3.out | exact HA4.out | grind)
  have su7 : rz (b1) ≤ 10 := by have e := HZ7.out; first | omega | (rw [← e]; exact rz_qv (n1x) (d1x) om om om om)
  have HZ8 : Hid (qv (n1y) (d1y) = b2) := Lib.hid (by first | exact ok | exact HA0.out | exact HA1.out | exact HA2.out | exact HA3.out | exact HA4.out | grind)
  have su8 : rz (b2) ≤ 10 := by have e := HZ8.out; first | omega | (rw [← e]; exact rz_qv (n1y) (d1y) om om om om)
  have lx1 := HF.out.c 0 rfl
  refine kS fun K hK => ?_
  have HG0 : Hid (Gr Wx3 Wx3) := Lib.hid (Gr.refl _)
  refine sq 2 [(true, 0), (false, 1)] fun T hT => ?_
  refine tk ?_
  refine wpPlan_callE rfl (by rfl) Tryz.call27 (by rfl) (fun w' hw => (rpref (n1x) (d1x) (n1y) (d1y) (b1) (b2) _ (Lib.hid HZ7.out) (Lib.hid HZ8.out) om om om om om om om om).mono ?_)
  rintro e vv11 ⟨⟨rv5, rv6, rv7, rv8, rfl, bx11, bx12, bx13, bx14⟩, hg0⟩
  obtain ⟨ao5, nn5, cc5, rfl⟩ := Rn.sl bx11
  obtain ⟨ao6, nn6, cc6, rfl⟩ := Rn.sl bx12
  obtain ⟨ao7, nn7, cc7, rfl⟩ := Rn.sl bx13
  obtain ⟨ao8, nn8, cc8, rfl⟩ := Rn.sl bx14
  refine ⟨_, rfl, hg0, ?_⟩
  replace hg0 := Gr.trans hw hg0; clear hw
  replace HG0 := Lib.hid (HG0.out.trans hg0)
  have HGS := Lib.hid hg0; clear hg0
  clear HGS
  have RN11 := Lib.hid bx11; clear bx11
  have RN12 := Lib.hid bx12; clear bx12
  have RN13 := Lib.hid bx13; clear bx13
  have RN14 := Lib.hid bx14; clear bx14
  clear lx1; have lx1 := fun w' (h : Gr _ w') => HF.out.c 0 rfl w' (HG0.out.trans h)
  simp only [Act.put, lA, lB, lC]
  refine wpPlan_nil (hT.out _ _ ?_)
  intro vw4 hg
  simp only [puts, Act.put, lA, lB, lC, lD, lE, ↓reduceIte, Nat.reduceEqDiff]
  have HG := Lib.hid (((((HF.out.gr (HG0.out.trans hg)).ar (RN11.out.gr hg)).ar (RN12.out.gr hg)).ar (RN13.out.gr hg)).ar (RN14.out.gr hg))
  simp only [List.zip_cons_cons, List.zip_nil_right, List.map_cons, List.map_nil, lF, lG] at HG
  clear hT T HF hg HG0 RN11 RN12 RN13 RN14 lx1
  go_wp2
  refine hK.out _ _ ?_; clear hK K
  show Code.wp _ _ _ _ _
  refine fH (((HG.out).al (b := vw4.heap.size) (by first | rfl | simp) (by decide)).er 0) fun Wx4 HF => ?_
  clear HG
  generalize vw4.heap.size = gx15 at *
  refine wp_seq ?_
  have HB := HPb HF
  obtain ⟨u9, HZ9⟩ : ∃ z, Hid ((a1) + (b1) = z) := ⟨_, Lib.hid rfl⟩
  have su9 : sz (u9) ≤ 9 := by rw [← HZ9.out]; have := sz_add (a1) (b1); omega
  obtain ⟨u10, HZ10⟩ : ∃ z, Hid ((a2) + (b2) = z) := ⟨_, Lib.hid rfl⟩
  have su10 : sz (u10) ≤ 9 := by rw [← HZ10.out]; have := sz_add (a2) (b2); omega
  have HZ11 : Hid ((a1) + (b1) = u9) := Lib.hid (by first | exact ok | exact HA0.out | exact HA1.out | exact HA2.out | exact HA3.out | exact HA4.out | grind | (simp only [← HZ10.out, ← HZ9.out] <;> first | exact ok | exact HA0.out | exact HA1.out | exact HA2.out | exact HA3.out | exact HA4.out | grind))
  have su11 : rz (u9) ≤ 21 := by have e := HZ11.out; first | omega | (rw [← e]; have := rz_add (a1) (b1); omega)
  have HZ12 : Hid ((a2) + (b2) = u10) := Lib.hid (by first | exact ok | exact HA0.out | exact HA1.out | exact HA2.out | exact HA3.out | exact HA4.out | grind | (simp only [← HZ10.out, ← HZ9.out] <;> first | exact ok | exact HA0.out | exact HA1.out | exact HA2.out | exact HA3.out | exact HA4.out | grind))
  have su12 : rz (u10) ≤ 21 := by have e := HZ12.out; first | omega | (rw [← e]; have := rz_add (a2) (b2); omega)
  obtain ⟨u13, HZ13⟩ : ∃ z, Hid ((a1) - (b1) = z) := ⟨_, Lib.hid rfl⟩
  have su13 : sz (u13) ≤ 9 := by rw [← HZ13.out]; have := sz_sub (a1) (b1); omega
  obtain ⟨u14, HZ14⟩ : ∃ z, Hid ((a2) - (b2) = z) := ⟨_, Lib.hid rfl⟩
  have su14 : sz (u14) ≤ 9 := by rw [← HZ14.out]; have := sz_sub (a2) (b2); omega
  have HZ15 : Hid ((a1) - (b1) = u13) := Lib.hid (by first | exact ok | exact HA0.out | exact HA1.out | exact HA2.out | exact HA3.out | exact HA4.out | grind | (simp only [← HZ14.out, ← HZ13.out, ← HZ10.out, ← HZ9.out] <;> first | exact ok | exact HA0.out | exact HA1.out | exact HA2.out | exact HA3.out | exact HA4.out | grind))
  have su15 : rz (u13) ≤ 21 := by have e := HZ15.out; first | omega | (rw [← e]; have := rz_sub (a1) (b1); omega)
  have HZ16 : Hid ((a2) - (b2) = u14) := Lib.hid (by first | exact ok | exact HA0.out | exact HA1.out | exact HA2.out | exact HA3.out | exact HA4.out | grind | (simp only [← HZ14.out, ← HZ13.out, ← HZ10.out, ← HZ9.out] <;> first | exact ok | exact HA0.out | exact HA1.out | exact HA2.out | exact HA3.out | exact HA4.out | grind))
  have su16 : rz (u14) ≤ 21 := by have e := HZ16.out; first | omega | (rw [← e]; have := rz_sub (a2) (b2); omega)
  have HZ17 : Hid (qv (n2) (d2) = k) := Lib.hid (by first | exact ok | exact HA0.out | exact HA1.out | exact HA2.out | exact HA3.out | exact HA4.out | grind | (simp only [← HZ14.out, ← HZ13.out, ← HZ10.out, ← HZ9.out] <;> first | exact ok | exact HA0.out | exact HA1.out | exact HA2.out | exact HA3.out | exact HA4.out | grind))
  have su17 : sz (k) ≤ 4 := by have e := HZ17.out; first | omega | (rw [← e]; exact sz_qv (n2) (d2) om om om om)
  obtain ⟨u18, HZ18⟩ : ∃ z, Hid ((a1) * (k) = z) := ⟨_, Lib.hid rfl⟩
  have su18 : sz (u18) ≤ 8 := by rw [← HZ18.out]; have := sz_mul (a1) (k); omega
  obtain ⟨u19, HZ19⟩ : ∃ z, Hid ((a2) * (k) = z) := ⟨_, Lib.hid rfl⟩
  have su19 : sz (u19) ≤ 8 := by rw [← HZ19.out]; have := sz_mul (a2) (k); omega
  have HZ20 : Hid (qv (n2) (d2) = k) := Lib.hid (by first | exact ok | exact HA0.out | exact HA1.out | exact HA2.out | exact HA3.out | exact HA4.out | grind | (simp only [← HZ19.out, ← HZ18.out, ← HZ14.out, ← HZ13.out, ← HZ10.out, ← HZ9.out] <;> first | exact ok | exact HA0.out | exact HA1.out | exact HA2.out | exact HA3.out | exact HA4.out | grind))
  have su20 : rz (k) ≤ 10 := by have e := HZ20.out; first | omega | (rw [← e]; exact rz_qv (n2) (d2) om om om om)
  have HZ21 : Hid ((a1) * (k) = u18) := Lib.hid (by first | exact ok | exact HA0.out | exact HA1.out | exact HA2.out | exact HA3.out | exact HA4.out | grind | (simp only [← HZ19.out, ← HZ18.out, ← HZ14.out, ← HZ13.out, ← HZ10.out, ← HZ9.out] <;> first | exact ok | exact HA0.out | exact HA1.out | exact HA2.out | exact HA3.out | exact HA4.out | grind))
  have su21 : rz (u18) ≤ 20 := by have e := HZ21.out; first | omega | (rw [← e]; have := rz_mul (a1) (k); omega)
  have HZ22 : Hid ((a2) * (k) = u19) := Lib.hid (by first | exact ok | exact HA0.out | exact HA1.out | exact HA2.out | exact HA3.out | exact HA4.out | grind | (simp only [← HZ19.out, ← HZ18.out, ← HZ14.out, ← HZ13.out, ← HZ10.out, ← HZ9.out] <;> first | exact ok | exact HA0.out | exact HA1.out | exact HA2.out | exact HA3.out | exact HA4.out | grind))
  have su22 : rz (u19) ≤ 20 := by have e := HZ22.out; first | omega | (rw [← e]; have := rz_mul (a2) (k); omega)
  obtain ⟨u23, HZ23⟩ : ∃ z, Hid (((a1) + (b1)) * half = z) := ⟨_, Lib.hid rfl⟩
  have su23 : sz (u23) ≤ 13 := by rw [← HZ23.out]; have e1 := sz_mul ((a1) + (b1)) half; have e2 := sz_add (a1) (b1); have e3 := sz_half; omega
  obtain ⟨u24, HZ24⟩ : ∃ z, Hid (((a2) + (b2)) * half = z) := ⟨_, Lib.hid rfl⟩
  have su24 : sz (u24) ≤ 13 := by rw [← HZ24.out]; have e1 := sz_mul ((a2) + (b2)) half; have e2 := sz_add (a2) (b2); have e3 := sz_half; omega
  have HZ25 : Hid (((a1) + (b1)) * half = u23) := Lib.hid (by first | exact ok | exact HA0.out | exact HA1.out | exact HA2.out | exact HA3.out | exact HA4.out | grind | (simp only [← HZ24.out, ← HZ23.out, ← HZ19.out, ← HZ18.out, ← HZ14.out, ← HZ13.out, ← HZ10.out, ← HZ9.out] <;> first | exact ok | exact HA0.out | exact HA1.out | exact HA2.out | exact HA3.out | exact HA4.out | grind))
  have su25 : rz (u23) ≤ 32 := by have e := HZ25.out; first | omega | (rw [← e]; have e1 := rz_mul ((a1) + (b1)) half; have e2 := rz_add (a1) (b1); have e3 : rz half ≤ 10 := rz_quot 1 2 (by decide) (by decide) (by decide) (by decide); omega)
  have HZ26 : Hid (((a2) + (b2)) * half = u24) := Lib.hid (by first | exact ok | exact HA0.out | exact HA1.out | exact HA2.out | exact HA3.out | exact HA4.out | grind | (simp only [← HZ24.out, ← HZ23.out, ← HZ19.out, ← HZ18.out, ← HZ14.out, ← HZ13.out, ← HZ10.out, ← HZ9.out] <;> first | exact ok | exact HA0.out | exact HA1.out | exact HA2.out | exact HA3.out | exact HA4.out | grind))
  have su26 : rz (u24) ≤ 32 := by have e := HZ26.out; first | omega | (rw [← e]; have e1 := rz_mul ((a2) + (b2)) half; have e2 := rz_add (a2) (b2); have e3 : rz half ≤ 10 := rz_quot 1 2 (by decide) (by decide) (by decide) (by decide); omega)
  have lx2 := HF.out.c 0 rfl
  have lx4 := HF.out.c 1 rfl
  have lx5 := HF.out.c 2 rfl
  have lx10 := HF.out.c 7 rfl
  have lx15 := HF.out.c 12 rfl
  refine kS fun K hK => ?_
  have HG0 : Hid (Gr Wx4 Wx4) := Lib.hid (Gr.refl _)
  refine pd 39 [(true, 0), (true, 1), (true, 3), (true, 4), (true, 2), (false, 5), (true, 6), (true, 7), (true, 8), (true, 9), (true, 10), (true, 12), (true, 13), (true, 11), (false, 14), (true, 15), (true, 16), (true, 17), (true, 18), (true, 19), (true, 20), (true, 23), (true, 24), (true, 21), (true, 22), (false, 25), (false, 26), (true, 27), (true, 28), (true, 29), (true, 30), (true, 31), (true, 32), (true, 34), (true, 35), (true, 33), (false, 36), (true, 37), (true, 38)] fun T hT => ?_
  iterate 4 refine tk ?_
  refine ck Tryz.call30 (fun w' hw => padd_any (a1) (a2) (b1) (b2) (u9) (u10) _ HZ9.out HZ10.out om om om om) ?_
  refine wpPlan_callE rfl (by rfl) Tryz.call31 (by rfl) (fun w' hw => (rpadd (a1) (a2) (b1) (b2) (u9) (u10) _ _ _ _ _ _ _ _ _ HZ11.out HZ12.out (by omega) (by omega) (by omega) (by omega) (HF.out.r 3 rfl (HG0.out.trans hw)) (HF.out.r 4 rfl (HG0.out.trans hw)) (HF.out.r 5 rfl (HG0.out.trans hw)) (HF.out.r 6 rfl (HG0.out.trans hw)) (HF.out.r 8 rfl (HG0.out.trans hw)) (HF.out.r 9 rfl (HG0.out.trans hw)) (HF.out.r 10 rfl (HG0.out.trans hw)) (HF.out.r 11 rfl (HG0.out.trans hw))).mono ?_)
  rintro e vv16 ⟨⟨rv9, rv10, rv11, rv12, rfl, bx16, bx17, bx18, bx19⟩, hg0⟩
  obtain ⟨ao9, nn9, cc9, rfl⟩ := Rn.sl bx16
  obtain ⟨ao10, nn10, cc10, rfl⟩ := Rn.sl bx17
  obtain ⟨ao11, nn11, cc11, rfl⟩ := Rn.sl bx18
  obtain ⟨ao12, nn12, cc12, rfl⟩ := Rn.sl bx19
  refine ⟨_, rfl, hg0, ?_⟩
  replace hg0 := Gr.trans hw hg0; clear hw
  replace HG0 := Lib.hid (HG0.out.trans hg0)
  have HGS := Lib.hid hg0; clear hg0
  replace HB := Lib.hid (HB.out.trans (HGS.out.mono HB.out.size))
  clear HGS
  have RN16 := Lib.hid bx16; clear bx16
  have RN17 := Lib.hid bx17; clear bx17
  have RN18 := Lib.hid bx18; clear bx18
  have RN19 := Lib.hid bx19; clear bx19
  clear lx2; have lx2 := fun w' (h : Gr _ w') => HF.out.c 0 rfl w' (HG0.out.trans h)
  clear lx4; have lx4 := fun w' (h : Gr _ w') => HF.out.c 1 rfl w' (HG0.out.trans h)
  clear lx5; have lx5 := fun w' (h : Gr _ w') => HF.out.c 2 rfl w' (HG0.out.trans h)
  clear lx10; have lx10 := fun w' (h : Gr _ w') => HF.out.c 7 rfl w' (HG0.out.trans h)
  clear lx15; have lx15 := fun w' (h : Gr _ w') => HF.out.c 12 rfl w' (HG0.out.trans h)
  simp only [Act.put, lA, lB, lC]
  refine ck Tryz.call28 (fun w' hw => psame_any (u9) (u10) _ _ _ _ _ om om (by omega) (by omega) (RN16.out.gr hw) (RN17.out.gr hw) (RN18.out.gr hw) (RN19.out.gr hw) (Lib.hid (HT.out.gr (Gr.trans HB.out hw)))) ?_
  iterate 6 refine tk ?_
  refine ck Tryz.call32 (fun w' hw => psub_any (a1) (a2) (b1) (b2) (u13) (u14) _ HZ13.out HZ14.out om om om om) ?_
  refine wpPlan_callE rfl (by rfl) Tryz.call33 (by rfl) (fun w' hw => (rpsub (a1) (a2) (b1) (b2) (u13) (u14) _ _ _ _ _ _ _ _ _ HZ15.out HZ16.out (by omega) (by omega) (by omega) (by omega) (HF.out.r 3 rfl (HG0.out.trans hw)) (HF.out.r 4 rfl (HG0.out.trans hw)) (HF.out.r 5 rfl (HG0.out.trans hw)) (HF.out.r 6 rfl (HG0.out.trans hw)) (HF.out.r 8 rfl (HG0.out.trans hw)) (HF.out.r 9 rfl (HG0.out.trans hw)) (HF.out.r 10 rfl (HG0.out.trans hw)) (HF.out.r 11 rfl (HG0.out.trans hw))).mono ?_)
  rintro e vv20 ⟨⟨rv13, rv14, rv15, rv16, rfl, bx20, bx21, bx22, bx23⟩, hg0⟩
  obtain ⟨ao13, nn13, cc13, rfl⟩ := Rn.sl bx20
  obtain ⟨ao14, nn14, cc14, rfl⟩ := Rn.sl bx21
  obtain ⟨ao15, nn15, cc15, rfl⟩ := Rn.sl bx22
  obtain ⟨ao16, nn16, cc16, rfl⟩ := Rn.sl bx23
  refine ⟨_, rfl, hg0, ?_⟩
  replace hg0 := Gr.trans hw hg0; clear hw
  replace HG0 := Lib.hid (HG0.out.trans hg0)
  have HGS := Lib.hid hg0; clear hg0
  replace RN16 := Lib.hid (RN16.out.gr HGS.out)
  replace RN17 := Lib.hid (RN17.out.gr HGS.out)
  replace RN18 := Lib.hid (RN18.out.gr HGS.out)
  replace RN19 := Lib.hid (RN19.out.gr HGS.out)
  replace HB := Lib.hid (HB.out.trans (HGS.out.mono HB.out.size))
  clear HGS
  have RN20 := Lib.hid bx20; clear bx20
  have RN21 := Lib.hid bx21; clear bx21
  have RN22 := Lib.hid bx22; clear bx22
  have RN23 := Lib.hid bx23; clear bx23
  clear lx2; have lx2 := fun w' (h : Gr _ w') => HF.out.c 0 rfl w' (HG0.out.trans h)
  clear lx4; have lx4 := fun w' (h : Gr _ w') => HF.out.c 1 rfl w' (HG0.out.trans h)
  clear lx5; have lx5 := fun w' (h : Gr _ w') => HF.out.c 2 rfl w' (HG0.out.trans h)
  clear lx10; have lx10 := fun w' (h : Gr _ w') => HF.out.c 7 rfl w' (HG0.out.trans h)
  clear lx15; have lx15 := fun w' (h : Gr _ w') => HF.out.c 12 rfl w' (HG0.out.trans h)
  simp only [Act.put, lA, lB, lC]
  refine ck Tryz.call28 (fun w' hw => psame_any (u13) (u14) _ _ _ _ _ om om (by omega) (by omega) (RN20.out.gr hw) (RN21.out.gr hw) (RN22.out.gr hw) (RN23.out.gr hw) (Lib.hid (HT.out.gr (Gr.trans HB.out hw)))) ?_
  iterate 7 refine tk ?_
  refine ck Tryz.call35 (fun w' hw => qv_any (n2) (d2) (k) _ HZ17.out om om om om) ?_
  refine ck Tryz.call34 (fun w' hw => pscale_any (a1) (a2) (k) (u18) (u19) _ HZ18.out HZ19.out om om om) ?_
  refine wpPlan_callE rfl (by rfl) Tryz.call37 (by rfl) (fun w' hw => (rqv_any (n2) (d2) (k) _ HZ20.out om om om om).mono ?_)
  rintro e vv24 ⟨⟨rv17, rv18, rfl, bx24, bx25⟩, hg0⟩
  obtain ⟨ao17, nn17, cc17, rfl⟩ := Rn.sl bx24
  obtain ⟨ao18, nn18, cc18, rfl⟩ := Rn.sl bx25
  refine ⟨_, rfl, hg0, ?_⟩
  replace hg0 := Gr.trans hw hg0; clear hw
  replace HG0 := Lib.hid (HG0.out.trans hg0)
  have HGS := Lib.hid hg0; clear hg0
  replace RN16 := Lib.hid (RN16.out.gr HGS.out)
  replace RN17 := Lib.hid (RN17.out.gr HGS.out)
  replace RN18 := Lib.hid (RN18.out.gr HGS.out)
  replace RN19 := Lib.hid (RN19.out.gr HGS.out)
  replace RN20 := Lib.hid (RN20.out.gr HGS.out)
  replace RN21 := Lib.hid (RN21.out.gr HGS.out)
  replace RN22 := Lib.hid (RN22.out.gr HGS.out)
  replace RN23 := Lib.hid (RN23.out.gr HGS.out)
  replace HB := Lib.hid (HB.out.trans (HGS.out.mono HB.out.size))
  clear HGS
  have RN24 := Lib.hid bx24; clear bx24
  have RN25 := Lib.hid bx25; clear bx25
  clear lx2; have lx2 := fun w' (h : Gr _ w') => HF.out.c 0 rfl w' (HG0.out.trans h)
  clear lx4; have lx4 := fun w' (h : Gr _ w') => HF.out.c 1 rfl w' (HG0.out.trans h)
  clear lx5; have lx5 := fun w' (h : Gr _ w') => HF.out.c 2 rfl w' (HG0.out.trans h)
  clear lx10; have lx10 := fun w' (h : Gr _ w') => HF.out.c 7 rfl w' (HG0.out.trans h)
  clear lx15; have lx15 := fun w' (h : Gr _ w') => HF.out.c 12 rfl w' (HG0.out.trans h)
  simp only [Act.put, lA, lB, lC]
  refine wpPlan_callE rfl (by rfl) Tryz.call36 (by rfl) (fun w' hw => (rpscale (a1) (a2) (k) (u18) (u19) _ _ _ _ _ _ _ HZ21.out HZ22.out (by omega) (by omega) (by omega) (HF.out.r 3 rfl (HG0.out.trans hw)) (HF.out.r 4 rfl (HG0.out.trans hw)) (HF.out.r 5 rfl (HG0.out.trans hw)) (HF.out.r 6 rfl (HG0.out.trans hw)) (RN24.out.gr hw) (RN25.out.gr hw)).mono ?_)
  rintro e vv26 ⟨⟨rv19, rv20, rv21, rv22, rfl, bx26, bx27, bx28, bx29⟩, hg0⟩
  obtain ⟨ao19, nn19, cc19, rfl⟩ := Rn.sl bx26
  obtain ⟨ao20, nn20, cc20, rfl⟩ := Rn.sl bx27
  obtain ⟨ao21, nn21, cc21, rfl⟩ := Rn.sl bx28
  obtain ⟨ao22, nn22, cc22, rfl⟩ := Rn.sl bx29
  refine ⟨_, rfl, hg0, ?_⟩
  replace hg0 := Gr.trans hw hg0; clear hw
  replace HG0 := Lib.hid (HG0.out.trans hg0)
  have HGS := Lib.hid hg0; clear hg0
  replace RN16 := Lib.hid (RN16.out.gr HGS.out)
  replace RN17 := Lib.hid (RN17.out.gr HGS.out)
  replace RN18 := Lib.hid (RN18.out.gr HGS.out)
  replace RN19 := Lib.hid (RN19.out.gr HGS.out)
  replace RN20 := Lib.hid (RN20.out.gr HGS.out)
  replace RN21 := Lib.hid (RN21.out.gr HGS.out)
  replace RN22 := Lib.hid (RN22.out.gr HGS.out)
  replace RN23 := Lib.hid (RN23.out.gr HGS.out)
  replace RN24 := Lib.hid (RN24.out.gr HGS.out)
  replace RN25 := Lib.hid (RN25.out.gr HGS.out)
  replace HB := Lib.hid (HB.out.trans (HGS.out.mono HB.out.size))
  clear HGS
  have RN26 := Lib.hid bx26; clear bx26
  have RN27 := Lib.hid bx27; clear bx27
  have RN28 := Lib.hid bx28; clear bx28
  have RN29 := Lib.hid bx29; clear bx29
  clear lx2; have lx2 := fun w' (h : Gr _ w') => HF.out.c 0 rfl w' (HG0.out.trans h)
  clear lx4; have lx4 := fun w' (h : Gr _ w') => HF.out.c 1 rfl w' (HG0.out.trans h)
  clear lx5; have lx5 := fun w' (h : Gr _ w') => HF.out.c 2 rfl w' (HG0.out.trans h)
  clear lx10; have lx10 := fun w' (h : Gr _ w') => HF.out.c 7 rfl w' (HG0.out.trans h)
  clear lx15; have lx15 := fun w' (h : Gr _ w') => HF.out.c 12 rfl w' (HG0.out.trans h)
  simp only [Act.put, lA, lB, lC]
  refine ck Tryz.call28 (fun w' hw => psame_any (u18) (u19) _ _ _ _ _ om om (by omega) (by omega) (RN26.out.gr hw) (RN27.out.gr hw) (RN28.out.gr hw) (RN29.out.gr hw) (Lib.hid (HT.out.gr (Gr.trans HB.out hw)))) ?_
  iterate 7 refine tk ?_
  refine ck Tryz.call38 (fun w' hw => pmid_any (a1) (a2) (b1) (b2) (u23) (u24) _ HZ23.out HZ24.out om om om om) ?_
  refine wpPlan_callE rfl (by rfl) Tryz.call39 (by rfl) (fun w' hw => (rpmid (a1) (a2) (b1) (b2) (u23) (u24) _ _ _ _ _ _ _ _ _ HZ25.out HZ26.out (by omega) (by omega) (by omega) (by omega) (HF.out.r 3 rfl (HG0.out.trans hw)) (HF.out.r 4 rfl (HG0.out.trans hw)) (HF.out.r 5 rfl (HG0.out.trans hw)) (HF.out.r 6 rfl (HG0.out.trans hw)) (HF.out.r 8 rfl (HG0.out.trans hw)) (HF.out.r 9 rfl (HG0.out.trans hw)) (HF.out.r 10 rfl (HG0.out.trans hw)) (HF.out.r 11 rfl (HG0.out.trans hw))).mono ?_)
  rintro e vv30 ⟨⟨rv23, rv24, rv25, rv26, rfl, bx30, bx31, bx32, bx33⟩, hg0⟩
  obtain ⟨ao23, nn23, cc23, rfl⟩ := Rn.sl bx30
  obtain ⟨ao24, nn24, cc24, rfl⟩ := Rn.sl bx31
  obtain ⟨ao25, nn25, cc25, rfl⟩ := Rn.sl bx32
  obtain ⟨ao26, nn26, cc26, rfl⟩ := Rn.sl bx33
  refine ⟨_, rfl, hg0, ?_⟩
  replace hg0 := Gr.trans hw hg0; clear hw
  replace HG0 := Lib.hid (HG0.out.trans hg0)
  have HGS := Lib.hid hg0; clear hg0
  replace RN16 := Lib.hid (RN16.out.gr HGS.out)
  replace RN17 := Lib.hid (RN17.out.gr HGS.out)
  replace RN18 := Lib.hid (RN18.out.gr HGS.out)
  replace RN19 := Lib.hid (RN19.out.gr HGS.out)
  replace RN20 := Lib.hid (RN20.out.gr HGS.out)
  replace RN21 := Lib.hid (RN21.out.gr HGS.out)
  replace RN22 := Lib.hid (RN22.out.gr HGS.out)
  replace RN23 := Lib.hid (RN23.out.gr HGS.out)
  replace RN24 := Lib.hid (RN24.out.gr HGS.out)
  replace RN25 := Lib.hid (RN25.out.gr HGS.out)
  replace RN26 := Lib.hid (RN26.out.gr HGS.out)
  replace RN27 := Lib.hid (RN27.out.gr HGS.out)
  replace RN28 := Lib.hid (RN28.out.gr HGS.out)
  replace RN29 := Lib.hid (RN29.out.gr HGS.out)
  replace HB := Lib.hid (HB.out.trans (HGS.out.mono HB.out.size))
  clear HGS
  have RN30 := Lib.hid bx30; clear bx30
  have RN31 := Lib.hid bx31; clear bx31
  have RN32 := Lib.hid bx32; clear bx32
  have RN33 := Lib.hid bx33; clear bx33
  clear lx2; have lx2 := fun w' (h : Gr _ w') => HF.out.c 0 rfl w' (HG0.out.trans h)
  clear lx4; have lx4 := fun w' (h : Gr _ w') => HF.out.c 1 rfl w' (HG0.out.trans h)
  clear lx5; have lx5 := fun w' (h : Gr _ w') => HF.out.c 2 rfl w' (HG0.out.trans h)
  clear lx10; have lx10 := fun w' (h : Gr _ w') => HF.out.c 7 rfl w' (HG0.out.trans h)
  clear lx15; have lx15 := fun w' (h : Gr _ w') => HF.out.c 12 rfl w' (HG0.out.trans h)
  simp only [Act.put, lA, lB, lC]
  refine ck Tryz.call28 (fun w' hw => psame_any (u23) (u24) _ _ _ _ _ om om (by omega) (by omega) (RN30.out.gr hw) (RN31.out.gr hw) (RN32.out.gr hw) (RN33.out.gr hw) (Lib.hid (HT.out.gr (Gr.trans HB.out hw)))) ?_
  refine tk ?_
  refine wpPlan_nil (hT.out _ _ ?_)
  intro G vw5 hg hf
  simp only [puts, Act.put, lA, lB, lC, lD, lE, ↓reduceIte, Nat.reduceEqDiff]
  have HG := Lib.hid (((((((((((((((((((HF.out.gr (HG0.out.trans hg)).ar (RN16.out.gr hg)).ar (RN17.out.gr hg)).ar (RN18.out.gr hg)).ar (RN19.out.gr hg)).ar (RN20.out.gr hg)).ar (RN21.out.gr hg)).ar (RN22.out.gr hg)).ar (RN23.out.gr hg)).ar (RN24.out.gr hg)).ar (RN25.out.gr hg)).ar (RN26.out.gr hg)).ar (RN27.out.gr hg)).ar (RN28.out.gr hg)).ar (RN29.out.gr hg)).ar (RN30.out.gr hg)).ar (RN31.out.gr hg)).ar (RN32.out.gr hg)).ar (RN33.out.gr hg))
  simp only [List.zip_cons_cons, List.zip_nil_right, List.map_cons, List.map_nil, lF, lG] at HG
  clear hT T HF hg hf HG0 RN16 RN17 RN18 RN19 RN20 RN21 RN22 RN23 RN24 RN25 RN26 RN27 RN28 RN29 RN30 RN31 RN32 RN33 lx2 lx4 lx5 lx10 lx15 HB
  go_wp2
  refine hK.out _ _ ?_; clear hK K
  show Code.wp _ _ _ _ _
  refine fH ((((((((((((((((((((HG.out).er 30).er 29).er 28).er 27).er 26).er 25).er 24).er 23).er 22).er 21).er 20).er 19).er 18).er 17).er 16).er 15).er 14).er 13).er 0) fun Wx5 HF => ?_
  clear HG
  refine wp_cond_false (by rfl) ?_
  refine wp_skip ?_
  show Code.wp _ _ _ _ _
  have HB := HPb HF
  obtain ⟨u27, HZ27⟩ : ∃ z, Hid ((a1) * (b2) - (a2) * (b1) = z) := ⟨_, Lib.hid rfl⟩
  have su27 : sz (u27) ≤ 17 := by rw [← HZ27.out]; have := sz_cross (a1) (a2) (b1) (b2); omega
  have HZ28 : Hid ((a1) * (b2) - (a2) * (b1) = u27) := Lib.hid (by first | exact ok | exact HA0.out | exact HA1.out | exact HA2.out | exact HA3.out | exact HA4.out | grind | (simp only [← HZ27.out, ← HZ24.out, ← HZ23.out, ← HZ19.out, ← HZ18.out, ← HZ14.out, ← HZ13.out, ← HZ10.out, ← HZ9.out] <;> first | exact ok | exact HA0.out | exact HA1.out | exact HA2.out | exact HA3.out | exact HA4.out | grind))
  have su28 : rz (u27) ≤ 41 := by have e := HZ28.out; first | omega | (rw [← e]; have := rz_cross (a1) (a2) (b1) (b2); omega)
  obtain ⟨u29, HZ29⟩ : ∃ z, Hid ((a1) * (b1) + (a2) * (b2) = z) := ⟨_, Lib.hid rfl⟩
  have su29 : sz (u29) ≤ 17 := by rw [← HZ29.out]; have := sz_dot (a1) (a2) (b1) (b2); omega
  have HZ30 : Hid ((a1) * (b1) + (a2) * (b2) = u29) := Lib.hid (by first | exact ok | exact HA0.out | exact HA1.out | exact HA2.out | exact HA3.out | exact HA4.out | grind | (simp only [← HZ29.out, ← HZ27.out, ← HZ24.out, ← HZ23.out, ← HZ19.out, ← HZ18.out, ← HZ14.out, ← HZ13.out, ← HZ10.out, ← HZ9.out] <;> first | exact ok | exact HA0.out | exact HA1.out | exact HA2.out | exact HA3.out | exact HA4.out | grind))
  have su30 : rz (u29) ≤ 41 := by have e := HZ30.out; first | omega | (rw [← e]; have := rz_dot (a1) (a2) (b1) (b2); omega)
  obtain ⟨u31, HZ31⟩ : ∃ z, Hid (((b1) - (a1)) * ((b1) - (a1)) + ((b2) - (a2)) * ((b2) - (a2)) = z) := ⟨_, Lib.hid rfl⟩
  have su31 : sz (u31) ≤ 41 := by rw [← HZ31.out]; have := sz_square (a1) (a2) (b1) (b2); omega
  have HZ32 : Hid (((a1) - (b1)) * ((a1) - (b1)) + ((a2) - (b2)) * ((a2) - (b2)) = u31) := Lib.hid (by first | exact ok | exact HA0.out | exact HA1.out | exact HA2.out | exact HA3.out | exact HA4.out | grind | (simp only [← HZ31.out, ← HZ29.out, ← HZ27.out, ← HZ24.out, ← HZ23.out, ← HZ19.out, ← HZ18.out, ← HZ14.out, ← HZ13.out, ← HZ10.out, ← HZ9.out] <;> first | exact ok | exact HA0.out | exact HA1.out | exact HA2.out | exact HA3.out | exact HA4.out | grind))
  have su32 : rz (u31) ≤ 85 := by have e := HZ32.out; first | omega | (rw [← e]; have := rz_square (a1) (a2) (b1) (b2); omega)
  have lx4 := HF.out.c 0 rfl
  have lx5 := HF.out.c 1 rfl
  have lx10 := HF.out.c 6 rfl
  have lx15 := HF.out.c 11 rfl
  refine kS fun K hK => ?_
  have HG0 : Hid (Gr Wx5 Wx5) := Lib.hid (Gr.refl _)
  refine pd 37 [(true, 0), (true, 1), (true, 3), (true, 4), (true, 2), (false, 5), (true, 6), (true, 7), (true, 8), (true, 9), (true, 11), (true, 12), (true, 10), (false, 13), (true, 14), (true, 15), (true, 16), (true, 17), (true, 18), (true, 20), (true, 21), (true, 19), (false, 22), (true, 23), (true, 24), (true, 25), (true, 26), (true, 27), (true, 29), (true, 30), (true, 28), (true, 31), (true, 32), (true, 33), (true, 34), (true, 35), (true, 36)] fun T hT => ?_
  iterate 4 refine tk ?_
  refine ck Tryz.call41 (fun w' hw => pcross_any (a1) (a2) (b1) (b2) (u27) _ HZ27.out om om om om) ?_
  refine wpPlan_callE rfl (by rfl) Tryz.call42 (by rfl) (fun w' hw => (rpcross (a1) (a2) (b1) (b2) (u27) _ _ _ _ _ _ _ _ _ HZ28.out (by omega) (by omega) (by omega) (by omega) (HF.out.r 2 rfl (HG0.out.trans hw)) (HF.out.r 3 rfl (HG0.out.trans hw)) (HF.out.r 4 rfl (HG0.out.trans hw)) (HF.out.r 5 rfl (HG0.out.trans hw)) (HF.out.r 7 rfl (HG0.out.trans hw)) (HF.out.r 8 rfl (HG0.out.trans hw)) (HF.out.r 9 rfl (HG0.out.trans hw)) (HF.out.r 10 rfl (HG0.out.trans hw))).mono ?_)
  rintro e vv34 ⟨⟨rv27, rv28, rfl, bx34, bx35⟩, hg0⟩
  obtain ⟨ao27, nn27, cc27, rfl⟩ := Rn.sl bx34
  obtain ⟨ao28, nn28, cc28, rfl⟩ := Rn.sl bx35
  refine ⟨_, rfl, hg0, ?_⟩
  replace hg0 := Gr.trans hw hg0; clear hw
  replace HG0 := Lib.hid (HG0.out.trans hg0)
  have HGS := Lib.hid hg0; clear hg0
  replace HB := Lib.hid (HB.out.trans (HGS.out.mono HB.out.size))
  clear HGS
  have RN34 := Lib.hid bx34; clear bx34
  have RN35 := Lib.hid bx35; clear bx35
  clear lx4; have lx4 := fun w' (h : Gr _ w') => HF.out.c 0 rfl w' (HG0.out.trans h)
  clear lx5; have lx5 := fun w' (h : Gr _ w') => HF.out.c 1 rfl w' (HG0.out.trans h)
  clear lx10; have lx10 := fun w' (h : Gr _ w') => HF.out.c 6 rfl w' (HG0.out.trans h)
  clear lx15; have lx15 := fun w' (h : Gr _ w') => HF.out.c 11 rfl w' (HG0.out.trans h)
  simp only [Act.put, lA, lB, lC]
  refine ck Tryz.call40 (fun w' hw => num_any (u27) _ _ _ om (by omega) (RN34.out.gr hw) (RN35.out.gr hw) (Lib.hid (HT.out.gr (Gr.trans HB.out hw)))) ?_
  iterate 5 refine tk ?_
  refine ck Tryz.call43 (fun w' hw => pdot_any (a1) (a2) (b1) (b2) (u29) _ HZ29.out om om om om) ?_
  refine wpPlan_callE rfl (by rfl) Tryz.call44 (by rfl) (fun w' hw => (rpdot (a1) (a2) (b1) (b2) (u29) _ _ _ _ _ _ _ _ _ HZ30.out (by omega) (by omega) (by omega) (by omega) (HF.out.r 2 rfl (HG0.out.trans hw)) (HF.out.r 3 rfl (HG0.out.trans hw)) (HF.out.r 4 rfl (HG0.out.trans hw)) (HF.out.r 5 rfl (HG0.out.trans hw)) (HF.out.r 7 rfl (HG0.out.trans hw)) (HF.out.r 8 rfl (HG0.out.trans hw)) (HF.out.r 9 rfl (HG0.out.trans hw)) (HF.out.r 10 rfl (HG0.out.trans hw))).mono ?_)
  rintro e vv36 ⟨⟨rv29, rv30, rfl, bx36, bx37⟩, hg0⟩
  obtain ⟨ao29, nn29, cc29, rfl⟩ := Rn.sl bx36
  obtain ⟨ao30, nn30, cc30, rfl⟩ := Rn.sl bx37
  refine ⟨_, rfl, hg0, ?_⟩
  replace hg0 := Gr.trans hw hg0; clear hw
  replace HG0 := Lib.hid (HG0.out.trans hg0)
  have HGS := Lib.hid hg0; clear hg0
  replace RN34 := Lib.hid (RN34.out.gr HGS.out)
  replace RN35 := Lib.hid (RN35.out.gr HGS.out)
  replace HB := Lib.hid (HB.out.trans (HGS.out.mono HB.out.size))
  clear HGS
  have RN36 := Lib.hid bx36; clear bx36
  have RN37 := Lib.hid bx37; clear bx37
  clear lx4; have lx4 := fun w' (h : Gr _ w') => HF.out.c 0 rfl w' (HG0.out.trans h)
  clear lx5; have lx5 := fun w' (h : Gr _ w') => HF.out.c 1 rfl w' (HG0.out.trans h)
  clear lx10; have lx10 := fun w' (h : Gr _ w') => HF.out.c 6 rfl w' (HG0.out.trans h)
  clear lx15; have lx15 := fun w' (h : Gr _ w') => HF.out.c 11 rfl w' (HG0.out.trans h)
  simp only [Act.put, lA, lB, lC]
  refine ck Tryz.call40 (fun w' hw => num_any (u29) _ _ _ om (by omega) (RN36.out.gr hw) (RN37.out.gr hw) (Lib.hid (HT.out.gr (Gr.trans HB.out hw)))) ?_
  iterate 6 refine tk ?_
  refine ck Tryz.call45 (fun w' hw => psquare_any (a1) (a2) (b1) (b2) (u31) _ HZ31.out om om om om) ?_
  refine wpPlan_callE rfl (by rfl) Tryz.call46 (by rfl) (fun w' hw => (rpsquare (a1) (a2) (b1) (b2) (u31) _ _ _ _ _ _ _ _ _ HZ32.out (by omega) (by omega) (by omega) (by omega) (HF.out.r 2 rfl (HG0.out.trans hw)) (HF.out.r 3 rfl (HG0.out.trans hw)) (HF.out.r 4 rfl (HG0.out.trans hw)) (HF.out.r 5 rfl (HG0.out.trans hw)) (HF.out.r 7 rfl (HG0.out.trans hw)) (HF.out.r 8 rfl (HG0.out.trans hw)) (HF.out.r 9 rfl (HG0.out.trans hw)) (HF.out.r 10 rfl (HG0.out.trans hw))).mono ?_)
  rintro e vv38 ⟨⟨rv31, rv32, rfl, bx38, bx39⟩, hg0⟩
  obtain ⟨ao31, nn31, cc31, rfl⟩ := Rn.sl bx38
  obtain ⟨ao32, nn32, cc32, rfl⟩ := Rn.sl bx39
  refine ⟨_, rfl, hg0, ?_⟩
  replace hg0 := Gr.trans hw hg0; clear hw
  replace HG0 := Lib.hid (HG0.out.trans hg0)
  have HGS := Lib.hid hg0; clear hg0
  replace RN34 := Lib.hid (RN34.out.gr HGS.out)
  replace RN35 := Lib.hid (RN35.out.gr HGS.out)
  replace RN36 := Lib.hid (RN36.out.gr HGS.out)
  replace RN37 := Lib.hid (RN37.out.gr HGS.out)
  replace HB := Lib.hid (HB.out.trans (HGS.out.mono HB.out.size))
  clear HGS
  have RN38 := Lib.hid bx38; clear bx38
  have RN39 := Lib.hid bx39; clear bx39
  clear lx4; have lx4 := fun w' (h : Gr _ w') => HF.out.c 0 rfl w' (HG0.out.trans h)
  clear lx5; have lx5 := fun w' (h : Gr _ w') => HF.out.c 1 rfl w' (HG0.out.trans h)
  clear lx10; have lx10 := fun w' (h : Gr _ w') => HF.out.c 6 rfl w' (HG0.out.trans h)
  clear lx15; have lx15 := fun w' (h : Gr _ w') => HF.out.c 11 rfl w' (HG0.out.trans h)
  simp only [Act.put, lA, lB, lC]
  refine ck Tryz.call40 (fun w' hw => num_any (u31) _ _ _ om (by omega) (RN38.out.gr hw) (RN39.out.gr hw) (Lib.hid (HT.out.gr (Gr.trans HB.out hw)))) ?_
  iterate 6 refine tk ?_
  refine ck Tryz.call47 (fun w' hw => pless_any (a1) (a2) (b1) (b2) lb _ (HLB.out) om om om om) ?_
  refine ck Tryz.call48 (fun w' hw => rpless (a1) (a2) (b1) (b2) lb _ _ _ _ _ _ _ _ _ (HLB.out) (by omega) (by omega) (by omega) (by omega) (HF.out.r 2 rfl (HG0.out.trans hw)) (HF.out.r 3 rfl (HG0.out.trans hw)) (HF.out.r 4 rfl (HG0.out.trans hw)) (HF.out.r 5 rfl (HG0.out.trans hw)) (HF.out.r 7 rfl (HG0.out.trans hw)) (HF.out.r 8 rfl (HG0.out.trans hw)) (HF.out.r 9 rfl (HG0.out.trans hw)) (HF.out.r 10 rfl (HG0.out.trans hw))) ?_
  iterate 3 refine tk ?_
  refine ck Tryz.call29 (fun w' hw => lives_any _) ?_
  refine tk ?_
  refine wpPlan_nil (hT.out _ _ ?_)
  intro G vw6 hg hf
  simp only [puts, Act.put, lA, lB, lC, lD, lE, ↓reduceIte, Nat.reduceEqDiff]
  have HG := Lib.hid (((((((HF.out.gr (HG0.out.trans hg)).ar (RN34.out.gr hg)).ar (RN35.out.gr hg)).ar (RN36.out.gr hg)).ar (RN37.out.gr hg)).ar (RN38.out.gr hg)).ar (RN39.out.gr hg))
  simp only [List.zip_cons_cons, List.zip_nil_right, List.map_cons, List.map_nil, lF, lG] at HG
  clear hT T HF hg hf HG0 RN34 RN35 RN36 RN37 RN38 RN39 lx4 lx5 lx10 lx15 HB
  go_wp2
  refine hK.out _ _ ?_; clear hK K
  show Code.wp _ _ _ _ _
  refine fH (((((((((((((((((((HG.out).er 17).er 16).er 15).er 14).er 13).er 12).er 11).er 10).er 9).er 8).er 7).er 6).er 5).er 4).er 3).er 2).er 1).er 0) fun Wx7 HF => ?_
  clear HG
  refine wp_ret ?_
  try simp only [Exit.then, Exit.inBlock]
  exact bodyPost_ret (v := .bool true) (by simp [results, Tryz.results5, go_sem]) rfl ⟨rfl, HF.out.1⟩

theorem ops_all (n0x d0x n0y d0y n1x d1x n1y d1y n2 d2 : Int) (w : World) (h1_0x : -9223372036854775808 ≤ n0x) (h2_0x : n0x ≤ 9223372036854775807) (h3_0x : 0 ≤ d0x) (h4_0x : d0x ≤ 4294967295) (h1_0y : -9223372036854775808 ≤ n0y) (h2_0y : n0y ≤ 9223372036854775807) (h3_0y : 0 ≤ d0y) (h4_0y : d0y ≤ 4294967295) (h1_1x : -9223372036854775808 ≤ n1x) (h2_1x : n1x ≤ 9223372036854775807) (h3_1x : 0 ≤ d1x) (h4_1x : d1x ≤ 4294967295) (h1_1y : -9223372036854775808 ≤ n1y) (h2_1y : n1y ≤ 9223372036854775807) (h3_1y : 0 ≤ d1y) (h4_1y : d1y ≤ 4294967295) (h1_2 : -9223372036854775808 ≤ n2) (h2_2 : n2 ≤ 9223372036854775807) (h3_2 : 0 ≤ d2) (h4_2 : d2 ≤ 4294967295) (HT : Hid (Tab w)) :
    Calls Tryz.prog 5 #[.agg #[.int .i64 n0x, .int .u32 d0x, .int .i64 n0y, .int .u32 d0y], .agg #[.int .i64 n1x, .int .u32 d1x, .int .i64 n1y, .int .u32 d1y], .agg #[.int .i64 n2, .int .u32 d2]] w fun e w' => e = .returned (.bool true) ∧ Below w.heap.size w w' :=
  ops_law n0x d0x n0y d0y n1x d1x n1y d1y n2 d2 _ _ _ _ _ _ w (Lib.hid rfl) (Lib.hid rfl) (Lib.hid rfl) (Lib.hid rfl) (Lib.hid rfl) (Lib.hid rfl) h1_0x h2_0x h3_0x h4_0x h1_0y h2_0y h3_0y h4_0y h1_1x h2_1x h3_1x h4_1x h1_1y h2_1y h3_1y h4_1y h1_2 h2_2 h3_2 h4_2 HT

end Go.Proofs.YtpcfncbcpknobaaGreatDoor
