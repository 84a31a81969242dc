
/- gussetlaw02: Of, Ref. -/
import Derived.Test.YtaflakcemiilaaaGreatDoorHp
import Derived.Test.YtaflakcemiilaaaGreatDoorIntE
import Derived.Test.YtaflakcemiilaaaGreatDoorPJ
import Derived.Test.YtaflakcemiilaaaGreatDoorPT
set_option linter.unusedVariables false
set_option linter.unusedSimpArgs false
namespace Go.Proofs.YtaflakcemiilaaaGreatDoor
open Go.RowKit
attribute [local go_sem ↓] Go.wp_at_zero Go.wp_at_succ
attribute [local go_sem ↓] eq_nat eq_nat_zero eq_int
set_option maxRecDepth 20000 in
set_option maxHeartbeats 4000000 in
theorem zlof (bx : Bool) (kx : Nat) (fx : Nat → Nat) (mx : Nat) (a : Int) (ao_x : Option Addr) (c_x : Nat) (w : World) (HWx : Hid (Wa w (.slice ao_x kx c_x) kx fx)) (HFx : Hid (∀ i, i < kx → fx i < 4294967296)) (HVx : Hid (vl fx kx = mx)) (HAx : Hid ((if bx then -((mx : Nat) : Int) else ((mx : Nat) : Int)) = a)) (hkx : kx ≤ 100) (hmx : wl mx ≤ 100) :
    Calls Tryz.prog 121 #[(Value.agg #[.bool (bx), (.slice ao_x kx c_x)])] w fun e w' => e = .returned (.agg #[.int .u64 ((lo (Int.natAbs (a)) : Nat) : Int), .string (bg (Int.natAbs (a))), .bool (decide ((a) < 0))]) ∧ Below w.heap.size w w' := by
  go_enter Tryz.func121, Tryz.ntmps121
  have HF := Lib.hid (hp0 w)
  refine kS fun K hK => ?_
  refine wp_region_lit ?_
  go_wp2
  refine kO hK ?_; clear hK K
  refine fH (((HF.out).aL (w.heap.size)).aL (w.heap.size + 1)) fun Wx0 HG => ?_
  clear HF; have HF := HG; clear HG
  generalize w.heap.size + 1 = gx1 at *
  have HB := HPb HF
  have HZ1 : Hid ((if bx then -((mx : Nat) : Int) else ((mx : Nat) : Int)) = a) := Lib.hid (HAx.out)
  have su1 : wl (Int.natAbs (a)) ≤ 100 := by have e := HZ1.out; first | omega | (rw [← e]; split <;> simp <;> omega)
  have lx0 := HF.out.c 0 rfl
  refine kS fun K hK => ?_
  refine pd 6 [(true, 0), (true, 1), (true, 2), (true, 3), (true, 4), (true, 5)] fun T hT => ?_
  iterate 4 refine tk ?_
  refine ck Tryz.call203 (fun w' hw => zmade _ kx fx mx w _ HVx.out (by omega) HWx.out (Gr.trans HB.out hw) HFx.out) ?_
  refine ck Tryz.call113 (fun w' hw => from_any (bx) (mx) (a) _ HZ1.out) ?_
  refine nlD hT HF fun vw1 HG => ?_
  clear hT T HF lx0 HB
  have lx1 := HG.out.c 1 rfl; have fx1 := HG.out.f 1 rfl
  have r0 := Gr.refl vw1
  go_wp2
  refine kO hK ?_; clear hK K
  clear r0 lx1 fx1
  refine fH ((((HG.out).put2 1 0 rfl).put 1 2 _ rfl).er 0) fun Wx1 HF => ?_
  clear HG
  refine wp_ret ?_
  try simp only [Exit.then, Exit.inBlock]
  have lx1 := HF.out.c 0 rfl
  have r0 := Gr.refl Wx1
  exact bodyPost_ret (v := .agg #[.int .u64 ((lo (Int.natAbs (a)) : Nat) : Int), .string (bg (Int.natAbs (a))), .bool (decide ((a) < 0))]) (by simp [results, Tryz.results121, go_sem, lx1 _ r0]) rfl ⟨rfl, HF.out.1⟩
set_option maxRecDepth 20000 in
set_option maxHeartbeats 4000000 in
theorem zlref (bx : Bool) (kx : Nat) (fx : Nat → Nat) (mx : Nat) (a : Int) (ao_x : Option Addr) (c_x : Nat) (w : World) (HWx : Hid (Wa w (.slice ao_x kx c_x) kx fx)) (HFx : Hid (∀ i, i < kx → fx i < 4294967296)) (HVx : Hid (vl fx kx = mx)) (HAx : Hid ((if bx then -((mx : Nat) : Int) else ((mx : Nat) : Int)) = a)) (hkx : kx ≤ 100) (hmx : wl mx ≤ 100) :
    Calls Tryz.prog 163 #[.agg #[.bool bx, .slice ao_x kx c_x]] w fun e w' => (∃ r1 : Value, e = .returned (.agg #[.bool (decide (a < 0)), r1]) ∧ Rn w' r1 (Int.natAbs a)) ∧ Below w.heap.size w w' := by
  go_enter Tryz.func163, Tryz.ntmps163
  have HF := Lib.hid (hp0 w)
  refine kS fun K hK => ?_
  refine wp_region_lit ?_
  go_wp2
  refine kO hK ?_; clear hK K
  refine fH (((HF.out).aL (w.heap.size)).aL (w.heap.size + 1)) fun Wx0 HG => ?_
  clear HF; have HF := HG; clear HG
  generalize w.heap.size + 1 = gx1 at *
  have HB := HPb HF
  have su1 : tw mx ≤ 300 := by rw [← HVx.out]; have := tw_wl (vl fx kx); have := wl_le.2 (vl_lt HFx.out); omega
  have HZ2 : Hid ((if bx then -((mx : Nat) : Int) else ((mx : Nat) : Int)) = a) := Lib.hid (HAx.out)
  have su2 : tw (Int.natAbs (a)) ≤ 300 := by have e := HZ2.out; first | omega | (rw [← e]; split <;> simp <;> omega)
  have lx0 := HF.out.c 0 rfl
  refine kS fun K hK => ?_
  have HG0 : Hid (Gr Wx0 Wx0) := Lib.hid (Gr.refl _)
  refine pd 6 [(true, 0), (true, 1), (true, 2), (true, 3), (false, 4), (false, 5)] fun T hT => ?_
  iterate 4 refine tk ?_
  refine wpPlan_callE rfl (by rfl) Tryz.call231 (by rfl) (fun w' hw => (zrofw _ kx fx mx w _ HVx.out (by omega) HWx.out (Gr.trans HB.out hw) HFx.out).mono ?_)
  rintro e vv3 ⟨⟨rv1, rfl, bx3⟩, hg0⟩
  obtain ⟨ao1, nn1, cc1, rfl⟩ := Rn.sl bx3
  refine ⟨_, rfl, hg0, ?_⟩
  replace hg0 := Gr.trans hw hg0; clear hw
  replace HG0 := Lib.hid (HG0.out.trans hg0)
  have HGS := Lib.hid hg0; clear hg0
  replace HB := Lib.hid (HB.out.trans (HGS.out.mono HB.out.size))
  clear HGS
  have RN3 := Lib.hid bx3; clear bx3
  clear lx0; have lx0 := fun w' (h : Gr _ w') => HF.out.c 0 rfl w' (HG0.out.trans h)
  simp only [Act.put, lA, lB, lC]
  refine wpPlan_callE rfl (by rfl) Tryz.call187 (by rfl) (fun w' hw => (zfrom_any (bx) (mx) (a) _ _ HZ2.out (RN3.out.gr hw)).mono ?_)
  rintro e vv4 ⟨⟨rv2, rfl, bx4⟩, hg0⟩
  obtain ⟨ao2, nn2, cc2, rfl⟩ := Rn.sl bx4
  refine ⟨_, rfl, hg0, ?_⟩
  replace hg0 := Gr.trans hw hg0; clear hw
  replace HG0 := Lib.hid (HG0.out.trans hg0)
  have HGS := Lib.hid hg0; clear hg0
  replace RN3 := Lib.hid (RN3.out.gr HGS.out)
  replace HB := Lib.hid (HB.out.trans (HGS.out.mono HB.out.size))
  clear HGS
  have RN4 := Lib.hid bx4; clear bx4
  clear lx0; have lx0 := fun w' (h : Gr _ w') => HF.out.c 0 rfl w' (HG0.out.trans h)
  simp only [Act.put, lA, lB, lC]
  refine wpPlan_nil (hT.out _ _ ?_)
  intro G vw1 hg hf
  simp only [puts, Act.put, lA, lB, lC, lD, lE, ↓reduceIte, Nat.reduceEqDiff]
  have HG := Lib.hid (((HF.out.gr (HG0.out.trans hg)).ar (RN3.out.gr hg)).ar (RN4.out.gr hg))
  simp only [zq1_, zq2_, zq3_, zq4_, lF, lG] at HG
  clear hT T HF hg hf HG0 RN3 RN4 lx0 HB
  have lx1 := HG.out.c 1 rfl; have fx1 := HG.out.f 1 rfl
  have r0 := Gr.refl vw1
  go_wp2
  refine kO hK ?_; clear hK K
  clear r0 lx1 fx1
  refine fH ((((HG.out).put2 1 0 rfl).er 2).er 0) fun Wx1 HF => ?_
  clear HG
  refine wp_ret ?_
  try simp only [Exit.then, Exit.inBlock]
  have lx1 := HF.out.c 0 rfl
  have r0 := Gr.refl Wx1
  exact bodyPost_ret (v := .agg #[.bool (decide ((a) < 0)), (.slice ao2 nn2 cc2)]) (by simp [results, Tryz.results163, go_sem, lx1 _ r0]) rfl ⟨⟨(.slice ao2 nn2 cc2), rfl, (by rw [show Int.natAbs a = Int.natAbs (a) from rfl]; exact (HF.out.rn 1 rfl))⟩, HF.out.1⟩
end Go.Proofs.YtaflakcemiilaaaGreatDoor
