
/- gussetlaw03: Great.den, Of, Ref, Same, text, of. -/
import Derived.Test.YtaflakcemiilaaaGreatDoorPV
import Derived.Test.YtaflakcemiilaaaGreatDoorLawZ1
import Derived.Test.YtaflakcemiilaaaGreatDoorPS
import Derived.Test.YtaflakcemiilaaaGreatDoorPL
set_option linter.unusedVariables false
set_option linter.unusedSimpArgs false
namespace Go.Proofs.YtaflakcemiilaaaGreatDoor
open Go.RowKit
attribute [local go_sem ↓] Go.wp_at_zero Go.wp_at_succ
attribute [local go_sem ↓] eq_nat eq_nat_zero eq_int
attribute [local go_sem] Instr.field asAgg
set_option maxRecDepth 20000 in
set_option maxHeartbeats 4000000 in
theorem gden_any0 (bbxn : Bool) (kxn kxd : Nat) (ao_xn : Option Addr) (c_xn : Nat) (ao_xd : Option Addr) (c_xd : Nat) (w : World)  :
    Calls Tryz.prog 123 #[(Value.agg #[.bool (bbxn), (.slice ao_xn kxn c_xn), (.slice ao_xd kxd c_xd)])] w fun e w' => e = .returned ((.agg #[.bool false, .slice ao_xd kxd c_xd])) ∧ Below w.heap.size w w' := by
  go_enter Tryz.func123, Tryz.ntmps123
  have HF := Lib.hid (hp0 w)
  refine kS fun K hK => ?_
  refine wp_region_lit ?_
  go_wp2
  refine kO hK ?_; clear hK K
  refine fH (((HF.out).aL (w.heap.size)).aL (w.heap.size + 1)) fun Wx0 HG => ?_
  clear HF; have HF := HG; clear HG
  generalize w.heap.size + 1 = gx1 at *
  have lx0 := HF.out.c 0 rfl
  refine kS fun K hK => ?_
  refine sq 3 [(true, 0), (true, 1), (true, 2)] fun T hT => ?_
  iterate 3 refine tk ?_
  refine nlS hT HF fun vw1 HG => ?_
  clear hT T HF lx0
  have lx1 := HG.out.c 1 rfl; have fx1 := HG.out.f 1 rfl
  have r0 := Gr.refl vw1
  go_wp2
  refine kO hK ?_; clear hK K
  clear r0 lx1 fx1
  refine fH (((HG.out).put2 1 0 rfl).er 0) fun Wx1 HF => ?_
  clear HG
  refine wp_ret ?_
  try simp only [Exit.then, Exit.inBlock]
  have lx1 := HF.out.c 0 rfl
  have r0 := Gr.refl Wx1
  exact bodyPost_ret (v := .agg #[.bool false, (.slice ao_xd kxd c_xd)]) (by simp [results, Tryz.results123, go_sem, lx1 _ r0]) rfl ⟨rfl, HF.out.1⟩
theorem gden_any (b : Bool) (u v : Value) {ao : Option Addr} {k c : Nat} {ao' : Option Addr} {k' c' : Nat} (w : World) (hu : u = .slice ao k c := by rfl) (hv : v = .slice ao' k' c' := by rfl) :
    Calls Tryz.prog 123 #[.agg #[.bool b, u, v]] w fun e w' => e = .returned (.agg #[.bool false, v]) ∧ Below w.heap.size w w' := by
  subst hu hv
  exact gden_any0 b k k' ao c ao' c' w
set_option maxRecDepth 20000 in
set_option maxHeartbeats 4000000 in
theorem gof_any (bbxn : Bool) (kxn : Nat) (fxn : Nat → Nat) (mxn : Nat) (ixn : Int) (kxd : Nat) (fxd : Nat → Nat) (mxd : Nat) (q : Rat) (ao_xn : Option Addr) (c_xn : Nat) (ao_xd : Option Addr) (c_xd : Nat) (w : World) (HWxn : Hid (Wa w (.slice ao_xn kxn c_xn) kxn fxn)) (HFxn : Hid (∀ i, i < kxn → fxn i < 4294967296)) (HVxn : Hid (vl fxn kxn = mxn)) (HAxn : Hid ((if bbxn then -((mxn : Nat) : Int) else ((mxn : Nat) : Int)) = ixn)) (HWxd : Hid (Wa w (.slice ao_xd kxd c_xd) kxd fxd)) (HFxd : Hid (∀ i, i < kxd → fxd i < 4294967296)) (HVxd : Hid (vl fxd kxd = mxd)) (HQx : Hid (mkRat ixn (mxd + 1) = q)) (hkn : kxn ≤ 100) (hmn : wl mxn ≤ 100) (hkd : kxd ≤ 100) (hmd : wl mxd ≤ 100) :
    Calls Tryz.prog 36 #[(Value.agg #[.bool (bbxn), (.slice ao_xn kxn c_xn), (.slice ao_xd kxd c_xd)])] w fun e w' => e = .returned (.agg #[.int .u64 ((lo (Int.natAbs ((q).num)) : Nat) : Int), .string (bg (Int.natAbs ((q).num))), .bool (decide (((q).num) < 0)), .int .u64 ((lo ((q).den - 1) : Nat) : Int), .string (bg ((q).den - 1))]) ∧ Below w.heap.size w w' := by
  have hin_ : wl (Int.natAbs ixn) ≤ 100 := by rw [zsize HAxn.out]; exact hmn
  have hmi : wl (Int.natAbs (mxd : Int)) ≤ 100 := by rw [Int.natAbs_natCast]; exact hmd
  have hmt : tw (Int.natAbs (mxd : Int)) ≤ 300 := by rw [Int.natAbs_natCast]; have := tw_wl mxd; omega
  go_enter Tryz.func36, Tryz.ntmps36
  have HF := Lib.hid (hp0 w)
  refine kS fun K hK => ?_
  refine wp_region_lit ?_
  go_wp2
  refine kO hK ?_; clear hK K
  refine fH (((HF.out).aL (w.heap.size)).aL (w.heap.size + 1)) fun Wx0 HG => ?_
  clear HF; have HF := HG; clear HG
  generalize w.heap.size + 1 = gx1 at *
  have HB := HPb HF
  have su_0_1 : wl 1 ≤ 1 := wl_le.2 (by decide +kernel)
  obtain ⟨u1, HZ1⟩ : ∃ z, Hid ((Int.natAbs ((mxd : Int))) + (1) = z) := ⟨_, Lib.hid rfl⟩
  have su1 : wl (u1) ≤ 101 := by rw [← HZ1.out]; have := wl_add (Int.natAbs ((mxd : Int))) (1); omega
  have HZ2 : Hid (mkRat (ixn) (u1) = q) := Lib.hid (by rw [← HQx.out]; simp only [← HZ1.out]; rfl)
  have su2 : sz (q) ≤ 101 := by have e := HZ2.out; first | omega | (rw [← e]; exact sz_mkRat (k := 101) om om (by decide))
  have lx0 := HF.out.c 0 rfl
  refine kS fun K hK => ?_
  refine wp_region_plan 14 [13] [12] (fun _ => 3) (fun _ => .cells #[.int .u64 0, .string ⟨#[]⟩, .bool false, .int .u64 0, .string ⟨#[]⟩] 36) [(true, 0), (true, 1), (true, 3), (true, 2), (true, 4), (true, 5), (true, 6), (true, 7), (true, 8), (true, 9), (true, 10), (true, 11), (true, 12)] (by kernel_rfl) (by kernel_rfl) (by intro i hi; simp only [List.mem_cons, List.not_mem_nil, or_false] at hi; rcases hi with rfl <;> exact ⟨_, rfl, rfl, rfl, by simp, fun ρ w => by kernel_rfl⟩) (by intro i hi; simp only [List.mem_cons, List.not_mem_nil, or_false] at hi; rcases hi with rfl <;> exact ⟨_, rfl, pure_extract⟩) (fun _ _ _ _ _ h => h) (fun T hT => ?_)
  iterate 3 refine tk ?_
  refine ck Tryz.call121 (fun w' hw => zlof bbxn kxn fxn mxn ixn ao_xn c_xn w' (Lib.hid (HWxn.out.gr (Gr.trans HB.out hw))) HFxn HVxn HAxn om om) ?_
  refine ck Tryz.call123 (fun w' hw => gden_any (bbxn) (.slice ao_xn kxn c_xn) (.slice ao_xd kxd c_xd) _) ?_
  refine ck Tryz.call121 (fun w' hw => zlof false kxd fxd mxd (mxd : Int) ao_xd c_xd w' (Lib.hid (HWxd.out.gr (Gr.trans HB.out hw))) HFxd HVxd (Lib.hid rfl) om om) ?_
  refine ck Tryz.call114 (fun w' hw => abs_any ((mxd : Int)) _) ?_
  refine ck Tryz.call124 (fun w' hw => nzof 1 _ (by decide)) ?_
  refine ck Tryz.call122 (fun w' hw => nzadd (Int.natAbs ((mxd : Int))) (1) (u1) _ HZ1.out om om) ?_
  refine ck Tryz.call116 (fun w' hw => ffrom_ok (ixn) (u1) (q) _ (Lib.hid HZ2.out) (by simp only [← HZ1.out]; omega) om om) ?_
  iterate 3 refine tk ?_
  refine wpPlan_nil (hT.out _ _ ?_)
  intro G vw1 hg hf
  simp only [puts, Act.put, lA, lB, lC, lD, lE, ↓reduceIte, Nat.reduceEqDiff]
  have HG := Lib.hid (HF.out.fr hg hf (zs := [(#[.int .u64 0, .string ⟨#[]⟩, .bool false, .int .u64 0, .string ⟨#[]⟩], 36)]) rfl (by decide) (by decide))
  simp only [zq1_, zq2_, zq3_, zq4_, lF, lG] at HG
  clear hT T HF hg hf lx0 HB
  generalize G 13 = gx3 at *
  have lx3 := HG.out.c 2 rfl; have fx3 := HG.out.f 2 rfl
  have r0 := Gr.refl vw1
  go_wp2
  refine kO hK ?_; clear hK K
  clear r0 lx3 fx3
  refine fH (((((HG.out).put2 2 0 rfl).put2 2 2 rfl).put 2 4 _ rfl).er 0) fun Wx1 HF => ?_
  clear HG
  have lx3 := HF.out.c 1 rfl
  refine kS fun K hK => ?_
  refine sq 1 [(true, 0)] fun T hT => ?_
  refine tk ?_
  refine nlS hT HF fun vw2 HG => ?_
  clear hT T HF lx3
  have lx1 := HG.out.c 0 rfl; have fx1 := HG.out.f 0 rfl
  have r0 := Gr.refl vw2
  go_wp2
  refine kO hK ?_; clear hK K
  clear r0 lx1 fx1
  refine fH (((((HG.out).put2 0 0 rfl).put2 0 2 rfl).put 0 4 _ rfl).er 1) fun Wx2 HF => ?_
  clear HG
  refine wp_ret ?_
  try simp only [Exit.then, Exit.inBlock]
  have lx1 := HF.out.c 0 rfl
  have r0 := Gr.refl Wx2
  exact bodyPost_ret (v := .agg #[.int .u64 ((lo (Int.natAbs ((q).num)) : Nat) : Int), .string (bg (Int.natAbs ((q).num))), .bool (decide (((q).num) < 0)), .int .u64 ((lo ((q).den - 1) : Nat) : Int), .string (bg ((q).den - 1))]) (by simp [results, Tryz.results36, go_sem, lx1 _ r0]) rfl ⟨rfl, HF.out.1⟩
set_option maxRecDepth 20000 in
set_option maxHeartbeats 4000000 in
theorem gref_any (bbxn : Bool) (kxn : Nat) (fxn : Nat → Nat) (mxn : Nat) (ixn : Int) (kxd : Nat) (fxd : Nat → Nat) (mxd : Nat) (q : Rat) (ao_xn : Option Addr) (c_xn : Nat) (ao_xd : Option Addr) (c_xd : Nat) (w : World) (HWxn : Hid (Wa w (.slice ao_xn kxn c_xn) kxn fxn)) (HFxn : Hid (∀ i, i < kxn → fxn i < 4294967296)) (HVxn : Hid (vl fxn kxn = mxn)) (HAxn : Hid ((if bbxn then -((mxn : Nat) : Int) else ((mxn : Nat) : Int)) = ixn)) (HWxd : Hid (Wa w (.slice ao_xd kxd c_xd) kxd fxd)) (HFxd : Hid (∀ i, i < kxd → fxd i < 4294967296)) (HVxd : Hid (vl fxd kxd = mxd)) (HQx : Hid (mkRat ixn (mxd + 1) = q)) (hkn : kxn ≤ 100) (hmn : wl mxn ≤ 100) (hkd : kxd ≤ 100) (hmd : wl mxd ≤ 100) :
    Calls Tryz.prog 59 #[.agg #[.bool bbxn, .slice ao_xn kxn c_xn, .slice ao_xd kxd c_xd]] w fun e w' => (∃ r1 r2 : Value, e = .returned (.agg #[.bool (decide ((q).num < 0)), r1, r2]) ∧ Rn w' r1 (Int.natAbs ((q).num)) ∧ Rn w' r2 ((q).den - 1)) ∧ Below w.heap.size w w' := by
  have hin_ : tw (Int.natAbs ixn) ≤ 300 := by rw [zsize HAxn.out]; have := tw_wl mxn; omega
  have hmi : wl (Int.natAbs (mxd : Int)) ≤ 100 := by rw [Int.natAbs_natCast]; exact hmd
  have hmt : tw (Int.natAbs (mxd : Int)) ≤ 300 := by rw [Int.natAbs_natCast]; have := tw_wl mxd; omega
  go_enter Tryz.func59, Tryz.ntmps59
  have HF := Lib.hid (hp0 w)
  refine kS fun K hK => ?_
  refine wp_region_lit ?_
  go_wp2
  refine kO hK ?_; clear hK K
  refine fH (((HF.out).aL (w.heap.size)).aL (w.heap.size + 1)) fun Wx0 HG => ?_
  clear HF; have HF := HG; clear HG
  generalize w.heap.size + 1 = gx1 at *
  have HB := HPb HF
  have HZ1 : Hid ((1 : Int) = 1) := Lib.hid (by decide +kernel)
  have su1 : tw (Int.natAbs (1)) ≤ 1 := tw_le.2 (by decide +kernel)
  obtain ⟨u2, HZ2⟩ : ∃ z, Hid (((mxd : Int)) + (1) = z) := ⟨_, Lib.hid rfl⟩
  have su2 : tw (Int.natAbs (u2)) ≤ 301 := by rw [← HZ2.out]; have := tw_iadd ((mxd : Int)) (1); omega
  have HZ3 : Hid (mkRat (ixn) (Int.natAbs (u2)) = q) := Lib.hid (by rw [← HQx.out]; simp only [← HZ2.out]; rfl)
  have su3 : rz (q) ≤ 301 := by have e := HZ3.out; first | omega | (rw [← e]; exact rz_mkRat (k := 301) (by omega) (by omega) (by decide))
  have lx0 := HF.out.c 0 rfl
  refine kS fun K hK => ?_
  have HG0 : Hid (Gr Wx0 Wx0) := Lib.hid (Gr.refl _)
  refine pd 10 [(true, 0), (true, 1), (true, 3), (false, 2), (true, 4), (false, 5), (false, 6), (false, 7), (true, 8), (false, 9)] fun T hT => ?_
  iterate 3 refine tk ?_
  refine wpPlan_callE rfl (by rfl) Tryz.call163 (by rfl) (fun w' hw => ((zlref bbxn kxn fxn mxn ixn ao_xn c_xn w' (Lib.hid (HWxn.out.gr (Gr.trans HB.out hw))) HFxn HVxn HAxn om om)).mono ?_)
  rintro e vv3 ⟨⟨rv1, rfl, bx3⟩, hg0⟩
  obtain ⟨ao1, nn1, cc1, rfl⟩ := Rn.sl bx3
  refine ⟨_, rfl, hg0, ?_⟩
  replace hg0 := Gr.trans hw hg0; clear hw
  replace HG0 := Lib.hid (HG0.out.trans hg0)
  have HGS := Lib.hid hg0; clear hg0
  replace HB := Lib.hid (HB.out.trans (HGS.out.mono HB.out.size))
  clear HGS
  have RN3 := Lib.hid bx3; clear bx3
  clear lx0; have lx0 := fun w' (h : Gr _ w') => HF.out.c 0 rfl w' (HG0.out.trans h)
  simp only [Act.put, lA, lB, lC]
  refine ck Tryz.call123 (fun w' hw => gden_any (bbxn) (.slice ao_xn kxn c_xn) (.slice ao_xd kxd c_xd) _) ?_
  refine wpPlan_callE rfl (by rfl) Tryz.call163 (by rfl) (fun w' hw => ((zlref false kxd fxd mxd (mxd : Int) ao_xd c_xd w' (Lib.hid (HWxd.out.gr (Gr.trans HB.out hw))) HFxd HVxd (Lib.hid rfl) om om)).mono ?_)
  rintro e vv4 ⟨⟨rv2, rfl, bx4⟩, hg0⟩
  obtain ⟨ao2, nn2, cc2, rfl⟩ := Rn.sl bx4
  refine ⟨_, rfl, hg0, ?_⟩
  replace hg0 := Gr.trans hw hg0; clear hw
  replace HG0 := Lib.hid (HG0.out.trans hg0)
  have HGS := Lib.hid hg0; clear hg0
  replace RN3 := Lib.hid (RN3.out.gr HGS.out)
  replace HB := Lib.hid (HB.out.trans (HGS.out.mono HB.out.size))
  clear HGS
  have RN4 := Lib.hid bx4; clear bx4
  clear lx0; have lx0 := fun w' (h : Gr _ w') => HF.out.c 0 rfl w' (HG0.out.trans h)
  simp only [Act.put, lA, lB, lC]
  refine wpPlan_callE rfl (by rfl) Tryz.call165 (by rfl) (fun w' hw => (zof_any (1) (1) _ HZ1.out (by decide) (by decide)).mono ?_)
  rintro e vv5 ⟨⟨rv3, rfl, bx5⟩, hg0⟩
  obtain ⟨ao3, nn3, cc3, rfl⟩ := Rn.sl bx5
  refine ⟨_, rfl, hg0, ?_⟩
  replace hg0 := Gr.trans hw hg0; clear hw
  replace HG0 := Lib.hid (HG0.out.trans hg0)
  have HGS := Lib.hid hg0; clear hg0
  replace RN3 := Lib.hid (RN3.out.gr HGS.out)
  replace RN4 := Lib.hid (RN4.out.gr HGS.out)
  replace HB := Lib.hid (HB.out.trans (HGS.out.mono HB.out.size))
  clear HGS
  have RN5 := Lib.hid bx5; clear bx5
  clear lx0; have lx0 := fun w' (h : Gr _ w') => HF.out.c 0 rfl w' (HG0.out.trans h)
  simp only [Act.put, lA, lB, lC]
  refine wpPlan_callE rfl (by rfl) Tryz.call164 (by rfl) (fun w' hw => (zadd_any ((mxd : Int)) (1) (u2) _ _ _ HZ2.out (by omega) (by omega) (RN4.out.gr hw) (RN5.out.gr hw)).mono ?_)
  rintro e vv6 ⟨⟨rv4, rfl, bx6⟩, hg0⟩
  obtain ⟨ao4, nn4, cc4, rfl⟩ := Rn.sl bx6
  refine ⟨_, rfl, hg0, ?_⟩
  replace hg0 := Gr.trans hw hg0; clear hw
  replace HG0 := Lib.hid (HG0.out.trans hg0)
  have HGS := Lib.hid hg0; clear hg0
  replace RN3 := Lib.hid (RN3.out.gr HGS.out)
  replace RN4 := Lib.hid (RN4.out.gr HGS.out)
  replace RN5 := Lib.hid (RN5.out.gr HGS.out)
  replace HB := Lib.hid (HB.out.trans (HGS.out.mono HB.out.size))
  clear HGS
  have RN6 := Lib.hid bx6; clear bx6
  clear lx0; have lx0 := fun w' (h : Gr _ w') => HF.out.c 0 rfl w' (HG0.out.trans h)
  simp only [Act.put, lA, lB, lC]
  refine tk ?_
  refine wpPlan_callE rfl (by rfl) Tryz.call162 (by rfl) (fun w' hw => (qfrom_any (ixn) (Int.natAbs (u2)) (q) _ _ _ HZ3.out (by first | exact ok | (simp only [← HZ2.out] <;> first | exact ok)) (by omega) (by omega) (RN3.out.gr hw) (RN6.out.gr hw)).mono ?_)
  rintro e vv7 ⟨⟨rv5, rv6, rfl, bx7, bx8⟩, hg0⟩
  obtain ⟨ao5, nn5, cc5, rfl⟩ := Rn.sl bx7
  obtain ⟨ao6, nn6, cc6, rfl⟩ := Rn.sl bx8
  refine ⟨_, rfl, hg0, ?_⟩
  replace hg0 := Gr.trans hw hg0; clear hw
  replace HG0 := Lib.hid (HG0.out.trans hg0)
  have HGS := Lib.hid hg0; clear hg0
  replace RN3 := Lib.hid (RN3.out.gr HGS.out)
  replace RN4 := Lib.hid (RN4.out.gr HGS.out)
  replace RN5 := Lib.hid (RN5.out.gr HGS.out)
  replace RN6 := Lib.hid (RN6.out.gr HGS.out)
  replace HB := Lib.hid (HB.out.trans (HGS.out.mono HB.out.size))
  clear HGS
  have RN7 := Lib.hid bx7; clear bx7
  have RN8 := Lib.hid bx8; clear bx8
  clear lx0; have lx0 := fun w' (h : Gr _ w') => HF.out.c 0 rfl w' (HG0.out.trans h)
  simp only [Act.put, lA, lB, lC]
  refine wpPlan_nil (hT.out _ _ ?_)
  intro G vw1 hg hf
  simp only [puts, Act.put, lA, lB, lC, lD, lE, ↓reduceIte, Nat.reduceEqDiff]
  have HG := Lib.hid (((((((HF.out.gr (HG0.out.trans hg)).ar (RN3.out.gr hg)).ar (RN4.out.gr hg)).ar (RN5.out.gr hg)).ar (RN6.out.gr hg)).ar (RN7.out.gr hg)).ar (RN8.out.gr hg))
  simp only [zq1_, zq2_, zq3_, zq4_, lF, lG] at HG
  clear hT T HF hg hf HG0 RN3 RN4 RN5 RN6 RN7 RN8 lx0 HB
  have lx1 := HG.out.c 1 rfl; have fx1 := HG.out.f 1 rfl
  have r0 := Gr.refl vw1
  go_wp2
  refine kO hK ?_; clear hK K
  clear r0 lx1 fx1
  refine fH ((((((((HG.out).put2 1 0 rfl).put 1 2 _ rfl).er 5).er 4).er 3).er 2).er 0) fun Wx1 HF => ?_
  clear HG
  refine wp_ret ?_
  try simp only [Exit.then, Exit.inBlock]
  have lx1 := HF.out.c 0 rfl
  have r0 := Gr.refl Wx1
  exact bodyPost_ret (v := .agg #[.bool (decide ((q).num < 0)), (.slice ao5 nn5 cc5), (.slice ao6 nn6 cc6)]) (by simp [results, Tryz.results59, go_sem, lx1 _ r0]) rfl ⟨⟨(.slice ao5 nn5 cc5), (.slice ao6 nn6 cc6), rfl, (HF.out.rn 1 rfl), (HF.out.rn 2 rfl)⟩, HF.out.1⟩
set_option maxRecDepth 20000 in
set_option maxHeartbeats 4000000 in
theorem fsame_any (q : Rat) (va1 va2 : Value) (w : World) (hs : sz q ≤ 100000) (hr : rz q ≤ 1000000) (bx21 : Rn w va1 (Int.natAbs ((q).num))) (bx22 : Rn w va2 ((q).den - 1)) (HT : Hid (Tab w)) :
    Calls Tryz.prog 28 #[(Value.agg #[.int .u64 ((lo (Int.natAbs ((q).num)) : Nat) : Int), .string (bg (Int.natAbs ((q).num))), .bool (decide (((q).num) < 0)), .int .u64 ((lo ((q).den - 1) : Nat) : Int), .string (bg ((q).den - 1))]), (Value.agg #[.bool (decide ((q).num < 0)), va1, va2])] w fun e w' => e = .returned ((.bool true)) ∧ Below w.heap.size w w' := by
  obtain ⟨ao_va1, n_va1, c_va1, rfl⟩ := Rn.sl bx21
  obtain ⟨ao_va2, n_va2, c_va2, rfl⟩ := Rn.sl bx22
  go_enter Tryz.func28, Tryz.ntmps28
  have HF := Lib.hid (hp0 w)
  replace HF := Lib.hid ((HF.out.ar bx21).ar bx22)
  simp only [lF, lG] at HF
  clear bx21 bx22
  refine kS fun K hK => ?_
  refine wp_region_lit ?_
  go_wp2
  refine kO hK ?_; clear hK K
  refine fH (((HF.out).aL (w.heap.size)).aL (w.heap.size + 1)) fun Wx0 HG => ?_
  clear HF; have HF := HG; clear HG
  generalize w.heap.size + 1 = gx24 at *
  have HB := HPb HF
  have hse : ((ftx q).toList == (ftx q).toList) = true := by simp
  have lx23 := HF.out.c 2 rfl
  have lx24 := HF.out.c 3 rfl
  refine kS fun K hK => ?_
  refine pd 5 [(true, 0), (true, 2), (true, 1), (true, 3), (true, 4)] fun T hT => ?_
  iterate 2 refine tk ?_
  refine ck Tryz.call103 (fun w' hw => ftext_any (q) _ om (Lib.hid (HT.out.gr (Gr.trans HB.out hw)))) ?_
  refine ck Tryz.call104 (fun w' hw => qtext_any (q) _ _ _ (by omega) (HF.out.r 0 rfl hw) (HF.out.r 1 rfl hw)) ?_
  refine tk ?_
  refine nlD hT HF fun vw1 HG => ?_
  clear hT T HF lx23 lx24 HB
  go_wp2
  refine kO hK ?_; clear hK K
  refine fH (((((HG.out).er 3).er 2).er 1).er 0) fun Wx1 HF => ?_
  clear HG
  clear hse
  refine wp_ret ?_
  try simp only [Exit.then, Exit.inBlock]
  exact bodyPost_ret (v := .bool true) (by simp [results, Tryz.results28, go_sem]) rfl ⟨rfl, HF.out.1⟩
end Go.Proofs.YtaflakcemiilaaaGreatDoor
