
/- ReconsThere: the law's walk. -/
import Derived.Test.YtobojnodohjiaaaGreatDoorRecW
import Derived.Test.YtobojnodohjiaaaGreatDoorRecT
import Derived.Test.YtobojnodohjiaaaGreatDoorGreatP
import Derived.Test.YtobojnodohjiaaaGreatDoorHp2
import Derived.Test.YtobojnodohjiaaaGreatDoorLawZ2
namespace Go.Proofs.YtobojnodohjiaaaGreatDoor
open Go.RowKit
set_option linter.unusedSimpArgs false
set_option linter.unusedVariables false
attribute [local go_sem ↓] Go.wp_at_zero Go.wp_at_succ
attribute [local go_sem ↓] eq_nat eq_nat_zero eq_int eq_frac eq_frac_zero
attribute [local go_sem] Instr.field asAgg
theorem ziof1 (z : Int) (w : World) (hz : (1 : Int) = z) :
    Calls Tryz.prog 23 #[.int .i64 1] w fun e w' => e = .returned (Value.agg #[.int .u64 ((lo (Int.natAbs (z)) : Nat) : Int), .string (bg (Int.natAbs (z))), .bool (decide ((z) < 0))]) ∧ Below w.heap.size w w' := hz ▸ iof_any 1 w (by decide) (by decide)

set_option maxRecDepth 100000 in
set_option maxHeartbeats 16000000 in
theorem there_main (bbxn : Bool) (vxn : Value) (kxn : Nat) (fxn : Nat → Nat) (mxn : Nat) (ixn : Int) (vxd : Value) (kxd : Nat) (fxd : Nat → Nat) (mxd : Nat) (a : Rat) (vm : Value) (km : Nat) (fm : Nat → Nat) (n : Nat) (bbz : Bool) (vz : Value) (kz : Nat) (fz : Nat → Nat) (mz : Nat) (b : Int) (z1 z2 : Rat) (b1 b2 : Bool) (gg x y at_ o1 : Int) (w : World) (HWxn : Hid (Wa w vxn kxn fxn)) (HFxn : Hid (∀ i, i < kxn → fxn i < 4294967296)) (HVxn : Hid (vl fxn kxn = mxn)) (HAxn : Hid ((if bbxn then -((mxn : Nat) : Int) else ((mxn : Nat) : Int)) = ixn)) (HWxd : Hid (Wa w vxd kxd fxd)) (HFxd : Hid (∀ i, i < kxd → fxd i < 4294967296)) (HVxd : Hid (vl fxd kxd = mxd)) (HQx : Hid (mkRat ixn (mxd + 1) = a)) (HWm : Hid (Wa w vm km fm)) (HFm : Hid (∀ i, i < km → fm i < 4294967296)) (HVm : Hid (vl fm km = n)) (HWz : Hid (Wa w vz kz fz)) (HFz : Hid (∀ i, i < kz → fz i < 4294967296)) (HVz : Hid (vl fz kz = mz)) (HAz : Hid ((if bbz then -((mz : Nat) : Int) else ((mz : Nat) : Int)) = b)) (hkxn : kxn ≤ 4) (hkxd : kxd ≤ 4) (hkm : km ≤ 12) (hkz : kz ≤ 12) (HB1 : Hid (bk b n z1 b1)) (HG0 : Hid ((egcd ((n : Nat) : Int) ((a.den : Nat) : Int)).1 = gg)) (HGX : Hid ((egcd ((n : Nat) : Int) ((a.den : Nat) : Int)).2.1 = x)) (HGY : Hid ((egcd ((n : Nat) : Int) ((a.den : Nat) : Int)).2.2 = y)) (HAT : Hid (a.num * y = at_)) (HB2 : Hid (bk at_ n z2 b2)) (HO1 : Hid ((1 : Int) = o1)) (HT : Hid (Tab w)) :
    Calls Tryz.prog 6 #[.agg #[.bool bbxn, vxn, vxd], vm, .agg #[.bool bbz, vz]] w fun e w' => e = .returned (.bool true) ∧ Below w.heap.size w w' := by
  obtain ⟨ao_xn, c_xn, rfl⟩ := HWxn.out.slice
  obtain ⟨ao_xd, c_xd, rfl⟩ := HWxd.out.slice
  have hm_xn : wl mxn ≤ 4 := by rw [← HVxn.out]; have := wl_le.2 (vl_lt HFxn.out); omega
  have hm_xd : wl mxd ≤ 4 := by rw [← HVxd.out]; have := wl_le.2 (vl_lt HFxd.out); omega
  have hi_x : wl (Int.natAbs ixn) ≤ 4 := by rw [zsize HAxn.out]; exact hm_xn
  have hs_x : sz a ≤ 5 := by rw [← HQx.out]; exact sz_great hi_x hm_xd
  obtain ⟨ao_m, c_m, rfl⟩ := HWm.out.slice
  have hb_n : wl n ≤ 12 := by rw [← HVm.out]; have := wl_le.2 (vl_lt HFm.out); omega
  obtain ⟨ao_z, c_z, rfl⟩ := HWz.out.slice
  have hm_z : wl mz ≤ 12 := by rw [← HVz.out]; have := wl_le.2 (vl_lt HFz.out); omega
  have hb_z : wl (Int.natAbs (b)) ≤ 12 := by rw [zsize HAz.out]; exact hm_z
  go_enter Tryz.func6, Tryz.ntmps6
  have HF := Lib.hid (hp0 w)
  refine kS fun K hK => ?_
  refine wp_region_lit ?_
  go_wp2
  refine hK.out _ _ ?_; clear hK K
  show Code.wp _ _ _ _ _
  refine fH (((HF.out).al (b := w.heap.size) (by first | rfl | simp) (by decide)).al (b := w.heap.size + 1) (by first | rfl | simp) (by decide)) fun Wx0 HG => ?_
  clear HF; have HF := HG; clear HG
  generalize w.heap.size + 1 = gx1 at *
  refine wp_seq ?_
  have hd1 : ¬ (4 < ((kxn : Int))) := ok
  have hd2 : ¬ (4 < ((kxd : Int))) := ok
  have hd3 : ¬ (12 < ((km : Int))) := ok
  have hd4 : ¬ (12 < ((kz : Int))) := ok
  have lx0 := HF.out.c 0 rfl
  have lx1 := HF.out.c 1 rfl
  refine kS fun K hK => ?_
  refine sq 22 [(true, 0), (true, 1), (true, 2), (true, 3), (true, 4), (true, 5), (true, 6), (true, 7), (true, 8), (true, 9), (true, 10), (true, 11), (true, 12), (true, 13), (true, 14), (true, 15), (true, 16), (true, 17), (true, 18), (true, 19), (true, 20), (true, 21)] fun T hT => ?_
  iterate 22 refine tk ?_
  refine nlS hT HF fun vw1 HG => ?_
  clear hT T HF lx0 lx1
  go_wp2
  refine hK.out _ _ ?_; clear hK K
  show Code.wp _ _ _ _ _
  have HF := HG; clear HG
  clear hd1 hd2 hd3 hd4
  refine wp_cond_false (by rfl) ?_
  refine wp_skip ?_
  show Code.wp _ _ _ _ _
  have HB := HPb HF
  have lx1 := HF.out.c 1 rfl
  refine kS fun K hK => ?_
  refine wp_region_plan 6 [4, 5] [] (fun i => if i = 4 then 7 else 8) (fun i => if i = 4 then .cells #[.int .u64 0, .string ⟨#[]⟩] 30 else .cells #[.int .u64 0, .string ⟨#[]⟩, .bool false] 34) [(true, 0), (true, 2), (true, 1), (true, 3)] (by kernel_rfl) (by kernel_rfl) (by intro i hi; simp only [List.mem_cons, List.not_mem_nil, or_false] at hi; rcases hi with rfl | rfl <;> exact ⟨_, rfl, rfl, rfl, by simp, fun ρ w => by kernel_rfl⟩) (fun i hi => by cases hi) (fun _ _ _ _ _ h => h) (fun T hT => ?_)
  iterate 2 refine tk ?_
  refine ck Tryz.call31 (fun w' hw => zmade _ km fm n w _ HVm.out (by omega) HWm.out (Gr.trans HB.out hw) HFm.out) ?_
  refine ck Tryz.call32 (fun w' hw => zlof bbz kz fz mz b ao_z c_z w' (Lib.hid (HWz.out.gr (Gr.trans HB.out hw))) HFz HVz HAz om om) ?_
  refine wpPlan_nil (hT.out _ _ ?_)
  intro G vw2 hg hf
  simp only [puts, Act.put, lA, lB, lC, lD, lE, ↓reduceIte, Nat.reduceEqDiff]
  have HG := Lib.hid (HF.out.fr hg hf (zs := [(#[.int .u64 0, .string ⟨#[]⟩], 30), (#[.int .u64 0, .string ⟨#[]⟩, .bool false], 34)]) rfl (by decide) (by decide))
  simp only [List.zip_cons_cons, List.zip_nil_right, List.map_cons, List.map_nil, lF, lG] at HG
  clear hT T HF hg hf lx1 HB
  generalize G 4 = gx3 at *
  generalize G 5 = gx4 at *
  have lx3 := HG.out.c 2 rfl; have fx3 := HG.out.f 2 rfl
  have lx4 := HG.out.c 3 rfl; have fx4 := HG.out.f 3 rfl
  have r0 := Gr.refl vw2
  obtain ⟨d3_4, d4_3⟩ := HG.out.ne 2 3 rfl rfl (by decide)
  go_wp2
  refine hK.out _ _ ?_; clear hK K
  show Code.wp _ _ _ _ _
  clear r0 lx3 fx3 lx4 fx4 d3_4 d4_3
  refine fH (((((HG.out).put2 2 0 rfl).put2 3 0 rfl).put 3 2 _ rfl).er 1) fun Wx3 HF => ?_
  clear HG
  have su1 : sz (z1) ≤ 12 := bk_size (HB1.out) om (by decide)
  have lx3 := HF.out.c 1 rfl
  have lx4 := HF.out.c 2 rfl
  refine kS fun K hK => ?_
  refine sq 6 [(true, 0), (true, 1), (true, 2), (true, 3), (true, 4), (true, 5)] fun T hT => ?_
  iterate 2 refine tk ?_
  refine ck Tryz.call22 (fun w' hw => rback (b) (n) (z1) b1 _ (HB1.out) om om) ?_
  iterate 3 refine tk ?_
  refine nlS hT HF fun vw3 HG => ?_
  clear hT T HF lx3 lx4
  go_wp2
  refine hK.out _ _ ?_; clear hK K
  show Code.wp _ _ _ _ _
  refine fH ((HG.out).al (b := vw3.heap.size) (by first | rfl | simp) (by decide)) fun Wx4 HF => ?_
  clear HG
  generalize vw3.heap.size = gx5 at *
  refine wp_seq ?_
  refine kS fun K hK => ?_
  suffices HJ : Hid (∀ (g0 g1 g2 g4 g5 g6 g8 g9 g10 g11 g12 g13 g14 g15 g16 g17 g18 g19 g20 g21 g22 g23 g24 g25 g26 g27 g28 g29 g30 g31 g32 g33 g34 g35 g36 g37 g38 g39 g40 g41 g42 g43 g44 g45 g46 g47 g48 g49 g50 g51 g52 g53 g54 g55 g56 g57 g58 g59 g60 g61 g62 g63 g64 g65 g66 g67 g68 g69 g70 g71 g72 g74 g75 g76 g77 g78 g79 g80 g81 g82 g83 g84 g85 g86 g87 g88 g89 g90 g91 g92 g93 g94 g95 g96 g97 g98 g99 g100 g101 g102 g103 g104 g105 g106 g107 g108 g109 g110 g111 g112 g113 g114 g115 g116 g117 g118 g119 g120 g121 g122 g123 g124 g125 g126 g127 g128 g129 g130 g131 g132 g133 g134 g135 g136 g137 g138 g139 g140 g141 g142 : Value) (wj : World), Hid (HP w wj [Sum.inl (w.heap.size, 83, #[.bool (bbxn), (.slice ao_xn kxn c_xn), (.slice ao_xd kxd c_xd)]), Sum.inl (gx3, 30, #[.int .u64 ((lo (n) : Nat) : Int), .string (bg (n))])]) → K { tmps := #[g0, g1, g2, .pointer (some ⟨w.heap.size, 0, none⟩), g4, g5, g6, .pointer (some ⟨gx3, 0, none⟩), g8, g9, g10, g11, g12, g13, g14, g15, g16, g17, g18, g19, g20, g21, g22, g23, g24, g25, g26, g27, g28, g29, g30, g31, g32, g33, g34, g35, g36, g37, g38, g39, g40, g41, g42, g43, g44, g45, g46, g47, g48, g49, g50, g51, g52, g53, g54, g55, g56, g57, g58, g59, g60, g61, g62, g63, g64, g65, g66, g67, g68, g69, g70, g71, g72, .bool false, g74, g75, g76, g77, g78, g79, g80, g81, g82, g83, g84, g85, g86, g87, g88, g89, g90, g91, g92, g93, g94, g95, g96, g97, g98, g99, g100, g101, g102, g103, g104, g105, g106, g107, g108, g109, g110, g111, g112, g113, g114, g115, g116, g117, g118, g119, g120, g121, g122, g123, g124, g125, g126, g127, g128, g129, g130, g131, g132, g133, g134, g135, g136, g137, g138, g139, g140, g141, g142], defers := [] } wj) by
    rcases HB1.out with ⟨rfl, h1, h2⟩ | ⟨rfl, rfl, h3⟩
    · have HZ1 := Lib.hid h1
      have HZ2 := Lib.hid h2
      clear h1 h2
      have lx3 := HF.out.c 1 rfl
      have lx4 := HF.out.c 2 rfl
      have lx5 := HF.out.c 3 rfl
      refine sq 23 [(true, 0), (true, 1), (true, 2), (true, 3), (true, 4), (true, 5), (true, 6), (true, 7), (true, 8), (true, 9), (true, 10), (true, 11), (true, 12), (true, 13), (true, 14), (true, 15), (true, 16), (true, 17), (true, 18), (true, 19), (true, 20), (true, 21), (true, 22)] fun T hT => ?_
      iterate 5 refine tk ?_
      refine ck Tryz.call33 (fun w' hw => rFits (z1) (b) (n) true _ (decide_eq_true (HZ2.out)) om om om) ?_
      iterate 4 refine tk ?_
      refine ck Tryz.call34 (fun w' hw => rFar (z1) (n) true _ (decide_eq_true (HZ1.out)) om om) ?_
      iterate 7 refine tk ?_
      iterate 3 refine sk ?_
      iterate 2 refine tk ?_
      refine nlS hT HF fun vw4 HG => ?_
      clear hT T HF lx3 lx4 lx5
      go_wp2
      exact HJ.out _ _ _ _ _ _ _ _ _ _ _ _ _ _ _ _ _ _ _ _ _ _ _ _ _ _ _ _ _ _ _ _ _ _ _ _ _ _ _ _ _ _ _ _ _ _ _ _ _ _ _ _ _ _ _ _ _ _ _ _ _ _ _ _ _ _ _ _ _ _ _ _ _ _ _ _ _ _ _ _ _ _ _ _ _ _ _ _ _ _ _ _ _ _ _ _ _ _ _ _ _ _ _ _ _ _ _ _ _ _ _ _ _ _ _ _ _ _ _ _ _ _ _ _ _ _ _ _ _ _ _ _ _ _ _ _ _ _ _ _ _ (Lib.hid (((HG.out).er 3).er 2))
    · clear h3
      have lx3 := HF.out.c 1 rfl
      have lx4 := HF.out.c 2 rfl
      have lx5 := HF.out.c 3 rfl
      refine sq 23 [(true, 0), (true, 1), (true, 2), (true, 3), (true, 4), (true, 5), (true, 6), (true, 7), (true, 8), (true, 9), (true, 10), (true, 11), (true, 12), (true, 13), (true, 14), (true, 15), (true, 16), (true, 17), (true, 18), (true, 19), (true, 20), (true, 21), (true, 22)] fun T hT => ?_
      iterate 2 refine tk ?_
      iterate 11 refine sk ?_
      iterate 10 refine tk ?_
      refine nlS hT HF fun vw4 HG => ?_
      clear hT T HF lx3 lx4 lx5
      go_wp2
      exact HJ.out _ _ _ _ _ _ _ _ _ _ _ _ _ _ _ _ _ _ _ _ _ _ _ _ _ _ _ _ _ _ _ _ _ _ _ _ _ _ _ _ _ _ _ _ _ _ _ _ _ _ _ _ _ _ _ _ _ _ _ _ _ _ _ _ _ _ _ _ _ _ _ _ _ _ _ _ _ _ _ _ _ _ _ _ _ _ _ _ _ _ _ _ _ _ _ _ _ _ _ _ _ _ _ _ _ _ _ _ _ _ _ _ _ _ _ _ _ _ _ _ _ _ _ _ _ _ _ _ _ _ _ _ _ _ _ _ _ _ _ _ _ (Lib.hid (((HG.out).er 3).er 2))
  refine Lib.hid ?_
  intro g0 g1 g2 g4 g5 g6 g8 g9 g10 g11 g12 g13 g14 g15 g16 g17 g18 g19 g20 g21 g22 g23 g24 g25 g26 g27 g28 g29 g30 g31 g32 g33 g34 g35 g36 g37 g38 g39 g40 g41 g42 g43 g44 g45 g46 g47 g48 g49 g50 g51 g52 g53 g54 g55 g56 g57 g58 g59 g60 g61 g62 g63 g64 g65 g66 g67 g68 g69 g70 g71 g72 g74 g75 g76 g77 g78 g79 g80 g81 g82 g83 g84 g85 g86 g87 g88 g89 g90 g91 g92 g93 g94 g95 g96 g97 g98 g99 g100 g101 g102 g103 g104 g105 g106 g107 g108 g109 g110 g111 g112 g113 g114 g115 g116 g117 g118 g119 g120 g121 g122 g123 g124 g125 g126 g127 g128 g129 g130 g131 g132 g133 g134 g135 g136 g137 g138 g139 g140 g141 g142 wj HFJ
  clear HF; have HF := HFJ; clear HFJ
  refine hK.out _ _ ?_; clear hK K
  show Code.wp _ _ _ _ _
  refine wp_cond_false (by rfl) ?_
  refine wp_skip ?_
  show Code.wp _ _ _ _ _
  have HB := HPb HF
  have lx0 := HF.out.c 0 rfl
  refine kS fun K hK => ?_
  refine sq 2 [(true, 0), (true, 1)] fun T hT => ?_
  refine tk ?_
  refine ck Tryz.call35 (fun w' hw => gof_any bbxn kxn fxn mxn ixn kxd fxd mxd a ao_xn c_xn ao_xd c_xd w' (Lib.hid (HWxn.out.gr (Gr.trans HB.out hw))) HFxn HVxn HAxn (Lib.hid (HWxd.out.gr (Gr.trans HB.out hw))) HFxd HVxd HQx om om om om) ?_
  refine nlS hT HF fun vw4 HG => ?_
  clear hT T HF lx0 HB
  go_wp2
  refine hK.out _ _ ?_; clear hK K
  show Code.wp _ _ _ _ _
  refine fH (((HG.out).al (b := vw4.heap.size) (by first | rfl | simp) (by decide)).er 0) fun Wx7 HF => ?_
  clear HG
  generalize vw4.heap.size = gx6 at *
  have HZ2 : Hid ((if false then -((n : Nat) : Int) else ((n : Nat) : Int)) = ((n : Nat) : Int)) := Lib.hid (by rfl)
  have su2 : wl (Int.natAbs (((n : Nat) : Int))) ≤ 12 := by have e := HZ2.out; first | omega | (rw [← e]; split <;> simp <;> omega)
  have su3 : wl ((a).den) ≤ 5 := Nat.le_trans (sz_den _) om
  have sp3 : 0 < (a).den := (a).den_pos
  have HZ4 : Hid ((if false then -(((a).den : Nat) : Int) else (((a).den : Nat) : Int)) = ((a.den : Nat) : Int)) := Lib.hid (by rfl)
  have su4 : wl (Int.natAbs (((a.den : Nat) : Int))) ≤ 5 := by have e := HZ4.out; first | omega | (rw [← e]; split <;> simp <;> omega)
  have HZ5 : Hid ((egcd (((n : Nat) : Int)) (((a.den : Nat) : Int))).1 = gg) := Lib.hid (HG0.out)
  have su5 : wl (Int.natAbs (gg)) ≤ 20 := by have e := HZ5.out; first | omega | (rw [← e]; have := wl_egcd (a := ((n : Nat) : Int)) (b := ((a.den : Nat) : Int)) (M := 12) om om (by decide); omega)
  have HZ6 : Hid ((egcd (((n : Nat) : Int)) (((a.den : Nat) : Int))).2.1 = x) := Lib.hid (HGX.out)
  have su6 : wl (Int.natAbs (x)) ≤ 20 := by have e := HZ6.out; first | omega | (rw [← e]; have := wl_egcd (a := ((n : Nat) : Int)) (b := ((a.den : Nat) : Int)) (M := 12) om om (by decide); omega)
  have HZ7 : Hid ((egcd (((n : Nat) : Int)) (((a.den : Nat) : Int))).2.2 = y) := Lib.hid (HGY.out)
  have su7 : wl (Int.natAbs (y)) ≤ 20 := by have e := HZ7.out; first | omega | (rw [← e]; have := wl_egcd (a := ((n : Nat) : Int)) (b := ((a.den : Nat) : Int)) (M := 12) om om (by decide); omega)
  have lx3 := HF.out.c 0 rfl
  have lx6 := HF.out.c 1 rfl
  refine kS fun K hK => ?_
  refine wp_region_plan 13 [10, 11, 12] [8, 9] (fun i => if i = 10 then 12 else if i = 11 then 13 else 14) (fun i => if i = 10 then .cells #[.int .u64 0, .string ⟨#[]⟩, .bool false] 34 else if i = 11 then .cells #[.int .u64 0, .string ⟨#[]⟩, .bool false] 34 else .cells #[.int .u64 0, .string ⟨#[]⟩, .bool false] 34) [(true, 0), (true, 2), (true, 1), (true, 3), (true, 4), (true, 5), (true, 6), (true, 7), (true, 8), (true, 9)] (by kernel_rfl) (by kernel_rfl) (by intro i hi; simp only [List.mem_cons, List.not_mem_nil, or_false] at hi; rcases hi with rfl | rfl | rfl <;> exact ⟨_, rfl, rfl, rfl, by simp, fun ρ w => by kernel_rfl⟩) (by intro i hi; simp only [List.mem_cons, List.not_mem_nil, or_false] at hi; rcases hi with rfl | rfl <;> exact ⟨_, rfl, pure_extract⟩) (fun _ _ _ _ _ h => h) (fun T hT => ?_)
  iterate 2 refine tk ?_
  refine ck Tryz.call37 (fun w' hw => from_any false (n) (((n : Nat) : Int)) _ HZ2.out) ?_
  refine ck Tryz.call38 (fun w' hw => fDen_any (a) _ om) ?_
  refine ck Tryz.call37 (fun w' hw => from_any false ((a).den) (((a.den : Nat) : Int)) _ HZ4.out) ?_
  refine ck Tryz.call36 (fun w' hw => zigcd (((n : Nat) : Int)) (((a.den : Nat) : Int)) (gg) (x) (y) _ HZ5.out HZ6.out HZ7.out om om) ?_
  iterate 4 refine tk ?_
  refine wpPlan_nil (hT.out _ _ ?_)
  intro G vw5 hg hf
  simp only [puts, Act.put, lA, lB, lC, lD, lE, ↓reduceIte, Nat.reduceEqDiff]
  have HG := Lib.hid (HF.out.fr hg hf (zs := [(#[.int .u64 0, .string ⟨#[]⟩, .bool false], 34), (#[.int .u64 0, .string ⟨#[]⟩, .bool false], 34), (#[.int .u64 0, .string ⟨#[]⟩, .bool false], 34)]) rfl (by decide) (by decide))
  simp only [List.zip_cons_cons, List.zip_nil_right, List.map_cons, List.map_nil, lF, lG] at HG
  clear hT T HF hg hf lx3 lx6
  generalize G 10 = gx7 at *
  generalize G 11 = gx8 at *
  generalize G 12 = gx9 at *
  have lx7 := HG.out.c 2 rfl; have fx7 := HG.out.f 2 rfl
  have lx8 := HG.out.c 3 rfl; have fx8 := HG.out.f 3 rfl
  have lx9 := HG.out.c 4 rfl; have fx9 := HG.out.f 4 rfl
  have r0 := Gr.refl vw5
  obtain ⟨d7_8, d8_7⟩ := HG.out.ne 2 3 rfl rfl (by decide)
  obtain ⟨d7_9, d9_7⟩ := HG.out.ne 2 4 rfl rfl (by decide)
  obtain ⟨d8_9, d9_8⟩ := HG.out.ne 3 4 rfl rfl (by decide)
  go_wp2
  refine hK.out _ _ ?_; clear hK K
  show Code.wp _ _ _ _ _
  clear r0 lx7 fx7 lx8 fx8 lx9 fx9 d7_8 d8_7 d7_9 d9_7 d8_9 d9_8
  refine fH ((((((((HG.out).put2 2 0 rfl).put 2 2 _ rfl).put2 3 0 rfl).put 3 2 _ rfl).put2 4 0 rfl).put 4 2 _ rfl).er 3) fun Wx8 HF => ?_
  clear HG
  refine wp_seq ?_
  by_cases hg1 : gg = 1
  · by_cases hn0 : n = 0
    · have HG1 := Lib.hid hg1
      have HN0 := Lib.hid hn0
      clear hg1 hn0
      have su8 : wl (Int.natAbs o1) ≤ 1 := by rw [← HO1.out]; exact wl_le.2 (by decide +kernel)
      have hd5 : decide (gg = o1) = true := decide_eq_true (by first | exact ok | exact HG1.out.trans HO1.out | exact HN0.out)
      have hd6 : decide (n = 0) = true := decide_eq_true (by first | exact ok | exact HG1.out.trans HO1.out | exact HN0.out)
      have lx3 := HF.out.c 0 rfl
      have lx7 := HF.out.c 2 rfl
      refine kS fun K hK => ?_
      refine pd 7 [(true, 0), (true, 1), (true, 2), (true, 3), (true, 4), (true, 5), (true, 6)] fun T hT => ?_
      refine tk ?_
      refine ck Tryz.call23 (fun w' hw => ziof1 o1 _ HO1.out) ?_
      iterate 5 refine tk ?_
      refine nlD hT HF fun vw6 HG => ?_
      clear hT T HF lx3 lx7
      go_wp2
      refine hK.out _ _ ?_; clear hK K
      show Code.wp _ _ _ _ _
      refine fH ((HG.out).er 2) fun Wx9 HF => ?_
      clear HG
      clear hd5 hd6
      refine wp_cond_true (by rfl) ?_
      have HB := HPb HF
      refine kS fun K hK => ?_
      refine sq 2 [(true, 0), (true, 1)] fun T hT => ?_
      refine ck Tryz.call27 (fun w' hw => works7_any _ (Lib.hid (HT.out.gr (Gr.trans HB.out hw)))) ?_
      refine tk ?_
      refine nlS hT HF fun vw7 HG => ?_
      clear hT T HF HB
      go_wp2
      refine hK.out _ _ ?_; clear hK K
      show Code.wp _ _ _ _ _
      have HF := HG; clear HG
      refine wp_ret ?_
      try simp only [Exit.then, Exit.inBlock]
      exact bodyPost_ret (v := .bool true) (by simp [results, Tryz.results6, go_sem]) rfl ⟨rfl, HF.out.1⟩
    · have HG1 := Lib.hid hg1
      have HN0 := Lib.hid hn0
      have HFT : Hid (rfit a at_ n) := Lib.hid (by rw [← HAT.out]; exact there_fit hn0 (HG0.out.trans hg1) HGY.out)
      clear hg1 hn0
      have su8 : wl (Int.natAbs o1) ≤ 1 := by rw [← HO1.out]; exact wl_le.2 (by decide +kernel)
      have hd5 : decide (gg = o1) = true := decide_eq_true (by first | exact ok | exact HG1.out.trans HO1.out | exact HN0.out)
      have hd6 : decide (n = 0) = false := decide_eq_false (by first | exact ok | exact HG1.out.trans HO1.out | exact HN0.out)
      have lx3 := HF.out.c 0 rfl
      have lx7 := HF.out.c 2 rfl
      refine kS fun K hK => ?_
      refine pd 7 [(true, 0), (true, 1), (true, 2), (true, 3), (true, 4), (true, 5), (true, 6)] fun T hT => ?_
      refine tk ?_
      refine ck Tryz.call23 (fun w' hw => ziof1 o1 _ HO1.out) ?_
      iterate 5 refine tk ?_
      refine nlD hT HF fun vw6 HG => ?_
      clear hT T HF lx3 lx7
      go_wp2
      refine hK.out _ _ ?_; clear hK K
      show Code.wp _ _ _ _ _
      refine fH ((HG.out).er 2) fun Wx9 HF => ?_
      clear HG
      clear hd5 hd6
      refine wp_cond_false (by rfl) ?_
      refine wp_skip ?_
      show Code.wp _ _ _ _ _
      have su9 : wl (Int.natAbs ((a).num)) ≤ 5 := Nat.le_trans (sz_num _) om
      have HZ10 : Hid (((a).num) * (y) = at_) := Lib.hid (HAT.out)
      have su10 : wl (Int.natAbs (at_)) ≤ 25 := by have e := HZ10.out; first | omega | (rw [← e]; have := wl_imul ((a).num) (y); omega)
      have lx6 := HF.out.c 1 rfl
      have lx9 := HF.out.c 2 rfl
      refine kS fun K hK => ?_
      refine wp_region_plan 5 [4] [] (fun _ => 15) (fun _ => .cells #[.int .u64 0, .string ⟨#[]⟩, .bool false] 34) [(true, 0), (true, 2), (true, 1), (true, 3)] (by kernel_rfl) (by kernel_rfl) (by intro i hi; simp only [List.mem_cons, List.not_mem_nil, or_false] at hi; rcases hi with rfl <;> exact ⟨_, rfl, rfl, rfl, by simp, fun ρ w => by kernel_rfl⟩) (fun i hi => by cases hi) (fun _ _ _ _ _ h => h) (fun T hT => ?_)
      iterate 2 refine tk ?_
      refine ck Tryz.call40 (fun w' hw => fnum_any (a) _) ?_
      refine ck Tryz.call39 (fun w' hw => zimul ((a).num) (y) (at_) _ HZ10.out om om) ?_
      refine wpPlan_nil (hT.out _ _ ?_)
      intro G vw7 hg hf
      simp only [puts, Act.put, lA, lB, lC, lD, lE, ↓reduceIte, Nat.reduceEqDiff]
      have HG := Lib.hid (HF.out.fr hg hf (zs := [(#[.int .u64 0, .string ⟨#[]⟩, .bool false], 34)]) rfl (by decide) (by decide))
      simp only [List.zip_cons_cons, List.zip_nil_right, List.map_cons, List.map_nil, lF, lG] at HG
      clear hT T HF hg hf lx6 lx9
      generalize G 4 = gx10 at *
      have lx10 := HG.out.c 3 rfl; have fx10 := HG.out.f 3 rfl
      have r0 := Gr.refl vw7
      go_wp2
      refine hK.out _ _ ?_; clear hK K
      show Code.wp _ _ _ _ _
      clear r0 lx10 fx10
      refine fH ((((HG.out).put2 3 0 rfl).put 3 2 _ rfl).er 2) fun Wx11 HF => ?_
      clear HG
      refine wp_seq ?_
      have lx3 := HF.out.c 0 rfl
      have lx6 := HF.out.c 1 rfl
      have lx10 := HF.out.c 2 rfl
      refine kS fun K hK => ?_
      refine sq 5 [(true, 0), (true, 1), (true, 2), (true, 3), (true, 4)] fun T hT => ?_
      iterate 3 refine tk ?_
      refine ck Tryz.call33 (fun w' hw => rFits (a) (at_) (n) true _ (decide_eq_true (HFT.out)) om om om) ?_
      refine tk ?_
      refine nlS hT HF fun vw8 HG => ?_
      clear hT T HF lx3 lx6 lx10
      go_wp2
      refine hK.out _ _ ?_; clear hK K
      show Code.wp _ _ _ _ _
      have HF := HG; clear HG
      refine wp_cond_false (by rfl) ?_
      refine wp_skip ?_
      show Code.wp _ _ _ _ _
      have su11 : sz (z2) ≤ 12 := bk_size (HB2.out) om (by decide)
      have lx3 := HF.out.c 0 rfl
      have lx10 := HF.out.c 2 rfl
      refine kS fun K hK => ?_
      refine sq 6 [(true, 0), (true, 1), (true, 2), (true, 3), (true, 4), (true, 5)] fun T hT => ?_
      iterate 2 refine tk ?_
      refine ck Tryz.call22 (fun w' hw => rback (at_) (n) (z2) b2 _ (HB2.out) om om) ?_
      iterate 3 refine tk ?_
      refine nlS hT HF fun vw9 HG => ?_
      clear hT T HF lx3 lx10
      go_wp2
      refine hK.out _ _ ?_; clear hK K
      show Code.wp _ _ _ _ _
      refine fH ((HG.out).al (b := vw9.heap.size) (by first | rfl | simp) (by decide)) fun Wx14 HF => ?_
      clear HG
      generalize vw9.heap.size = gx11 at *
      refine wp_seq ?_
      by_cases hfar : rfar a n
      · have HFA := Lib.hid hfar
        obtain ⟨rfl, rfl⟩ : a = z2 ∧ true = b2 := by have e9 := bk_yes HB2.out hfar HFT.out; exact ⟨e9.1.symm, e9.2.symm⟩
        clear hfar
        have lx3 := HF.out.c 0 rfl
        have lx6 := HF.out.c 1 rfl
        refine kS fun K hK => ?_
        refine sq 3 [(true, 0), (true, 1), (true, 2)] fun T hT => ?_
        iterate 2 refine tk ?_
        refine ck Tryz.call34 (fun w' hw => rFar (a) (n) true _ (decide_eq_true (HFA.out)) om om) ?_
        refine nlS hT HF fun vw10 HG => ?_
        clear hT T HF lx3 lx6
        go_wp2
        refine hK.out _ _ ?_; clear hK K
        show Code.wp _ _ _ _ _
        have HF := HG; clear HG
        refine wp_cond_true (by rfl) ?_
        have HB := HPb HF
        have lx6 := HF.out.c 1 rfl
        have lx11 := HF.out.c 3 rfl
        refine kS fun K hK => ?_
        refine sq 10 [(true, 0), (true, 1), (true, 2), (true, 3), (true, 4), (true, 5), (true, 6), (true, 7), (true, 8), (true, 9)] fun T hT => ?_
        iterate 7 refine tk ?_
        refine ck Tryz.call27 (fun w' hw => works7_any _ (Lib.hid (HT.out.gr (Gr.trans HB.out hw)))) ?_
        iterate 2 refine tk ?_
        refine nlS hT HF fun vw11 HG => ?_
        clear hT T HF lx6 lx11 HB
        go_wp2
        refine hK.out _ _ ?_; clear hK K
        show Code.wp _ _ _ _ _
        have HF := HG; clear HG
        refine wp_ret ?_
        try simp only [Exit.then, Exit.inBlock]
        exact bodyPost_ret (v := .bool true) (by simp [results, Tryz.results6, go_sem]) rfl ⟨rfl, HF.out.1⟩
      · have HFA := Lib.hid hfar
        rcases HB2.out with ⟨rfl, h1, h2⟩ | ⟨rfl, rfl, h3⟩
        · have HZ1 := Lib.hid h1
          have HZ2 := Lib.hid h2
          have HNE : Hid (¬ z2 = a) := Lib.hid (fun e => by subst e; exact hfar h1)
          clear h1 h2 hfar
          have lx3 := HF.out.c 0 rfl
          have lx6 := HF.out.c 1 rfl
          refine kS fun K hK => ?_
          refine sq 3 [(true, 0), (true, 1), (true, 2)] fun T hT => ?_
          iterate 2 refine tk ?_
          refine ck Tryz.call34 (fun w' hw => rFar (a) (n) false _ (decide_eq_false (HFA.out)) om om) ?_
          refine nlS hT HF fun vw10 HG => ?_
          clear hT T HF lx3 lx6
          go_wp2
          refine hK.out _ _ ?_; clear hK K
          show Code.wp _ _ _ _ _
          have HF := HG; clear HG
          refine wp_cond_false (by rfl) ?_
          refine wp_skip ?_
          show Code.wp _ _ _ _ _
          have HB := HPb HF
          have hd7 : decide (z2 = a) = false := decide_eq_false (by first | exact ok | exact HNE.out | exact HG1.out.trans HO1.out | exact HN0.out)
          have lx3 := HF.out.c 0 rfl
          have lx6 := HF.out.c 1 rfl
          have lx10 := HF.out.c 2 rfl
          have lx11 := HF.out.c 3 rfl
          refine kS fun K hK => ?_
          refine sq 22 [(true, 0), (true, 1), (true, 2), (true, 3), (true, 4), (true, 5), (true, 6), (true, 7), (true, 8), (true, 9), (true, 10), (true, 11), (true, 12), (true, 13), (true, 14), (true, 15), (true, 16), (true, 17), (true, 18), (true, 19), (true, 20), (true, 21)] fun T hT => ?_
          iterate 10 refine tk ?_
          refine ck Tryz.call33 (fun w' hw => rFits (z2) (at_) (n) true _ (decide_eq_true (HZ2.out)) om om om) ?_
          iterate 4 refine tk ?_
          refine ck Tryz.call34 (fun w' hw => rFar (z2) (n) true _ (decide_eq_true (HZ1.out)) om om) ?_
          iterate 3 refine tk ?_
          refine ck Tryz.call27 (fun w' hw => works7_any _ (Lib.hid (HT.out.gr (Gr.trans HB.out hw)))) ?_
          iterate 2 refine tk ?_
          refine nlS hT HF fun vw11 HG => ?_
          clear hT T HF lx3 lx6 lx10 lx11 HB
          go_wp2
          refine hK.out _ _ ?_; clear hK K
          show Code.wp _ _ _ _ _
          refine fH (((((HG.out).er 3).er 2).er 1).er 0) fun Wx17 HF => ?_
          clear HG
          clear hd7
          refine wp_ret ?_
          try simp only [Exit.then, Exit.inBlock]
          exact bodyPost_ret (v := .bool true) (by simp [results, Tryz.results6, go_sem]) rfl ⟨rfl, HF.out.1⟩
        · clear h3 hfar
          have lx3 := HF.out.c 0 rfl
          have lx6 := HF.out.c 1 rfl
          refine kS fun K hK => ?_
          refine sq 3 [(true, 0), (true, 1), (true, 2)] fun T hT => ?_
          iterate 2 refine tk ?_
          refine ck Tryz.call34 (fun w' hw => rFar (a) (n) false _ (decide_eq_false (HFA.out)) om om) ?_
          refine nlS hT HF fun vw10 HG => ?_
          clear hT T HF lx3 lx6
          go_wp2
          refine hK.out _ _ ?_; clear hK K
          show Code.wp _ _ _ _ _
          have HF := HG; clear HG
          refine wp_cond_false (by rfl) ?_
          refine wp_skip ?_
          show Code.wp _ _ _ _ _
          have HB := HPb HF
          have lx3 := HF.out.c 0 rfl
          have lx6 := HF.out.c 1 rfl
          have lx10 := HF.out.c 2 rfl
          have lx11 := HF.out.c 3 rfl
          refine kS fun K hK => ?_
          refine sq 22 [(true, 0), (true, 1), (true, 2), (true, 3), (true, 4), (true, 5), (true, 6), (true, 7), (true, 8), (true, 9), (true, 10), (true, 11), (true, 12), (true, 13), (true, 14), (true, 15), (true, 16), (true, 17), (true, 18), (true, 19), (true, 20), (true, 21)] fun T hT => ?_
          iterate 3 refine tk ?_
          iterate 14 refine sk ?_
          iterate 2 refine tk ?_
          refine ck Tryz.call27 (fun w' hw => works7_any _ (Lib.hid (HT.out.gr (Gr.trans HB.out hw)))) ?_
          iterate 2 refine tk ?_
          refine nlS hT HF fun vw11 HG => ?_
          clear hT T HF lx3 lx6 lx10 lx11 HB
          go_wp2
          refine hK.out _ _ ?_; clear hK K
          show Code.wp _ _ _ _ _
          refine fH (((((HG.out).er 3).er 2).er 1).er 0) fun Wx17 HF => ?_
          clear HG
          refine wp_ret ?_
          try simp only [Exit.then, Exit.inBlock]
          exact bodyPost_ret (v := .bool true) (by simp [results, Tryz.results6, go_sem]) rfl ⟨rfl, HF.out.1⟩
  · have HG1 := Lib.hid hg1
    clear hg1
    have su8 : wl (Int.natAbs o1) ≤ 1 := by rw [← HO1.out]; exact wl_le.2 (by decide +kernel)
    have hd5 : decide (gg = o1) = false := decide_eq_false (by first | exact ok | exact fun e9 => HG1.out (e9.trans HO1.out.symm))
    have lx3 := HF.out.c 0 rfl
    have lx7 := HF.out.c 2 rfl
    refine kS fun K hK => ?_
    refine pd 7 [(true, 0), (true, 1), (true, 2), (true, 3), (true, 4), (true, 5), (true, 6)] fun T hT => ?_
    refine tk ?_
    refine ck Tryz.call23 (fun w' hw => ziof1 o1 _ HO1.out) ?_
    iterate 2 refine tk ?_
    iterate 3 refine sk ?_
    refine nlD hT HF fun vw6 HG => ?_
    clear hT T HF lx3 lx7
    go_wp2
    refine hK.out _ _ ?_; clear hK K
    show Code.wp _ _ _ _ _
    refine fH ((HG.out).er 2) fun Wx9 HF => ?_
    clear HG
    clear hd5
    refine wp_cond_true (by rfl) ?_
    have HB := HPb HF
    refine kS fun K hK => ?_
    refine sq 2 [(true, 0), (true, 1)] fun T hT => ?_
    refine ck Tryz.call27 (fun w' hw => works7_any _ (Lib.hid (HT.out.gr (Gr.trans HB.out hw)))) ?_
    refine tk ?_
    refine nlS hT HF fun vw7 HG => ?_
    clear hT T HF HB
    go_wp2
    refine hK.out _ _ ?_; clear hK K
    show Code.wp _ _ _ _ _
    have HF := HG; clear HG
    refine wp_ret ?_
    try simp only [Exit.then, Exit.inBlock]
    exact bodyPost_ret (v := .bool true) (by simp [results, Tryz.results6, go_sem]) rfl ⟨rfl, HF.out.1⟩

set_option maxRecDepth 100000 in
set_option maxHeartbeats 16000000 in
theorem there_big1 (bbxn : Bool) (vxn : Value) (kxn : Nat) (fxn : Nat → Nat) (mxn : Nat) (ixn : Int) (vxd : Value) (kxd : Nat) (fxd : Nat → Nat) (mxd : Nat) (a : Rat) (vm : Value) (km : Nat) (fm : Nat → Nat) (n : Nat) (bbz : Bool) (vz : Value) (kz : Nat) (fz : Nat → Nat) (mz : Nat) (b : Int)  (w : World) (HWxn : Hid (Wa w vxn kxn fxn)) (HFxn : Hid (∀ i, i < kxn → fxn i < 4294967296)) (HVxn : Hid (vl fxn kxn = mxn)) (HAxn : Hid ((if bbxn then -((mxn : Nat) : Int) else ((mxn : Nat) : Int)) = ixn)) (HWxd : Hid (Wa w vxd kxd fxd)) (HFxd : Hid (∀ i, i < kxd → fxd i < 4294967296)) (HVxd : Hid (vl fxd kxd = mxd)) (HQx : Hid (mkRat ixn (mxd + 1) = a)) (HWm : Hid (Wa w vm km fm)) (HFm : Hid (∀ i, i < km → fm i < 4294967296)) (HVm : Hid (vl fm km = n)) (HWz : Hid (Wa w vz kz fz)) (HFz : Hid (∀ i, i < kz → fz i < 4294967296)) (HVz : Hid (vl fz kz = mz)) (HAz : Hid ((if bbz then -((mz : Nat) : Int) else ((mz : Nat) : Int)) = b))  (hkxn : 4 < kxn) (HT : Hid (Tab w)) :
    Calls Tryz.prog 6 #[.agg #[.bool bbxn, vxn, vxd], vm, .agg #[.bool bbz, vz]] w fun e w' => e = .returned (.bool true) ∧ Below w.heap.size w w' := by
  obtain ⟨ao_xn, c_xn, rfl⟩ := HWxn.out.slice
  obtain ⟨ao_xd, c_xd, rfl⟩ := HWxd.out.slice
  obtain ⟨ao_m, c_m, rfl⟩ := HWm.out.slice
  obtain ⟨ao_z, c_z, rfl⟩ := HWz.out.slice
  go_enter Tryz.func6, Tryz.ntmps6
  have HF := Lib.hid (hp0 w)
  refine kS fun K hK => ?_
  refine wp_region_lit ?_
  go_wp2
  refine hK.out _ _ ?_; clear hK K
  show Code.wp _ _ _ _ _
  refine fH (((HF.out).al (b := w.heap.size) (by first | rfl | simp) (by decide)).al (b := w.heap.size + 1) (by first | rfl | simp) (by decide)) fun Wx0 HG => ?_
  clear HF; have HF := HG; clear HG
  generalize w.heap.size + 1 = gx1 at *
  refine wp_seq ?_
  have hd1 : 4 < ((kxn : Int)) := ok
  have lx0 := HF.out.c 0 rfl
  refine kS fun K hK => ?_
  refine sq 22 [(true, 0), (true, 1), (true, 2), (true, 3), (true, 4), (true, 5), (true, 6), (true, 7), (true, 8), (true, 9), (true, 10), (true, 11), (true, 12), (true, 13), (true, 14), (true, 15), (true, 16), (true, 17), (true, 18), (true, 19), (true, 20), (true, 21)] fun T hT => ?_
  iterate 6 refine tk ?_
  iterate 4 refine sk ?_
  iterate 2 refine tk ?_
  iterate 3 refine sk ?_
  iterate 2 refine tk ?_
  iterate 4 refine sk ?_
  refine tk ?_
  refine nlS hT HF fun vw1 HG => ?_
  clear hT T HF lx0
  go_wp2
  refine hK.out _ _ ?_; clear hK K
  show Code.wp _ _ _ _ _
  have HF := HG; clear HG
  clear hd1
  refine wp_cond_true (by rfl) ?_
  have HB := HPb HF
  refine kS fun K hK => ?_
  refine sq 2 [(true, 0), (true, 1)] fun T hT => ?_
  refine ck Tryz.call27 (fun w' hw => works7_any _ (Lib.hid (HT.out.gr (Gr.trans HB.out hw)))) ?_
  refine tk ?_
  refine nlS hT HF fun vw2 HG => ?_
  clear hT T HF HB
  go_wp2
  refine hK.out _ _ ?_; clear hK K
  show Code.wp _ _ _ _ _
  have HF := HG; clear HG
  refine wp_ret ?_
  try simp only [Exit.then, Exit.inBlock]
  exact bodyPost_ret (v := .bool true) (by simp [results, Tryz.results6, go_sem]) rfl ⟨rfl, HF.out.1⟩

set_option maxRecDepth 100000 in
set_option maxHeartbeats 16000000 in
theorem there_big2 (bbxn : Bool) (vxn : Value) (kxn : Nat) (fxn : Nat → Nat) (mxn : Nat) (ixn : Int) (vxd : Value) (kxd : Nat) (fxd : Nat → Nat) (mxd : Nat) (a : Rat) (vm : Value) (km : Nat) (fm : Nat → Nat) (n : Nat) (bbz : Bool) (vz : Value) (kz : Nat) (fz : Nat → Nat) (mz : Nat) (b : Int)  (w : World) (HWxn : Hid (Wa w vxn kxn fxn)) (HFxn : Hid (∀ i, i < kxn → fxn i < 4294967296)) (HVxn : Hid (vl fxn kxn = mxn)) (HAxn : Hid ((if bbxn then -((mxn : Nat) : Int) else ((mxn : Nat) : Int)) = ixn)) (HWxd : Hid (Wa w vxd kxd fxd)) (HFxd : Hid (∀ i, i < kxd → fxd i < 4294967296)) (HVxd : Hid (vl fxd kxd = mxd)) (HQx : Hid (mkRat ixn (mxd + 1) = a)) (HWm : Hid (Wa w vm km fm)) (HFm : Hid (∀ i, i < km → fm i < 4294967296)) (HVm : Hid (vl fm km = n)) (HWz : Hid (Wa w vz kz fz)) (HFz : Hid (∀ i, i < kz → fz i < 4294967296)) (HVz : Hid (vl fz kz = mz)) (HAz : Hid ((if bbz then -((mz : Nat) : Int) else ((mz : Nat) : Int)) = b)) (hkxn : kxn ≤ 4) (hkxd : 4 < kxd) (HT : Hid (Tab w)) :
    Calls Tryz.prog 6 #[.agg #[.bool bbxn, vxn, vxd], vm, .agg #[.bool bbz, vz]] w fun e w' => e = .returned (.bool true) ∧ Below w.heap.size w w' := by
  obtain ⟨ao_xn, c_xn, rfl⟩ := HWxn.out.slice
  obtain ⟨ao_xd, c_xd, rfl⟩ := HWxd.out.slice
  obtain ⟨ao_m, c_m, rfl⟩ := HWm.out.slice
  obtain ⟨ao_z, c_z, rfl⟩ := HWz.out.slice
  go_enter Tryz.func6, Tryz.ntmps6
  have HF := Lib.hid (hp0 w)
  refine kS fun K hK => ?_
  refine wp_region_lit ?_
  go_wp2
  refine hK.out _ _ ?_; clear hK K
  show Code.wp _ _ _ _ _
  refine fH (((HF.out).al (b := w.heap.size) (by first | rfl | simp) (by decide)).al (b := w.heap.size + 1) (by first | rfl | simp) (by decide)) fun Wx0 HG => ?_
  clear HF; have HF := HG; clear HG
  generalize w.heap.size + 1 = gx1 at *
  refine wp_seq ?_
  have hd1 : ¬ (4 < ((kxn : Int))) := ok
  have hd2 : 4 < ((kxd : Int)) := ok
  have lx0 := HF.out.c 0 rfl
  refine kS fun K hK => ?_
  refine sq 22 [(true, 0), (true, 1), (true, 2), (true, 3), (true, 4), (true, 5), (true, 6), (true, 7), (true, 8), (true, 9), (true, 10), (true, 11), (true, 12), (true, 13), (true, 14), (true, 15), (true, 16), (true, 17), (true, 18), (true, 19), (true, 20), (true, 21)] fun T hT => ?_
  iterate 12 refine tk ?_
  iterate 3 refine sk ?_
  iterate 2 refine tk ?_
  iterate 4 refine sk ?_
  refine tk ?_
  refine nlS hT HF fun vw1 HG => ?_
  clear hT T HF lx0
  go_wp2
  refine hK.out _ _ ?_; clear hK K
  show Code.wp _ _ _ _ _
  have HF := HG; clear HG
  clear hd1 hd2
  refine wp_cond_true (by rfl) ?_
  have HB := HPb HF
  refine kS fun K hK => ?_
  refine sq 2 [(true, 0), (true, 1)] fun T hT => ?_
  refine ck Tryz.call27 (fun w' hw => works7_any _ (Lib.hid (HT.out.gr (Gr.trans HB.out hw)))) ?_
  refine tk ?_
  refine nlS hT HF fun vw2 HG => ?_
  clear hT T HF HB
  go_wp2
  refine hK.out _ _ ?_; clear hK K
  show Code.wp _ _ _ _ _
  have HF := HG; clear HG
  refine wp_ret ?_
  try simp only [Exit.then, Exit.inBlock]
  exact bodyPost_ret (v := .bool true) (by simp [results, Tryz.results6, go_sem]) rfl ⟨rfl, HF.out.1⟩

set_option maxRecDepth 100000 in
set_option maxHeartbeats 16000000 in
theorem there_big3 (bbxn : Bool) (vxn : Value) (kxn : Nat) (fxn : Nat → Nat) (mxn : Nat) (ixn : Int) (vxd : Value) (kxd : Nat) (fxd : Nat → Nat) (mxd : Nat) (a : Rat) (vm : Value) (km : Nat) (fm : Nat → Nat) (n : Nat) (bbz : Bool) (vz : Value) (kz : Nat) (fz : Nat → Nat) (mz : Nat) (b : Int)  (w : World) (HWxn : Hid (Wa w vxn kxn fxn)) (HFxn : Hid (∀ i, i < kxn → fxn i < 4294967296)) (HVxn : Hid (vl fxn kxn = mxn)) (HAxn : Hid ((if bbxn then -((mxn : Nat) : Int) else ((mxn : Nat) : Int)) = ixn)) (HWxd : Hid (Wa w vxd kxd fxd)) (HFxd : Hid (∀ i, i < kxd → fxd i < 4294967296)) (HVxd : Hid (vl fxd kxd = mxd)) (HQx : Hid (mkRat ixn (mxd + 1) = a)) (HWm : Hid (Wa w vm km fm)) (HFm : Hid (∀ i, i < km → fm i < 4294967296)) (HVm : Hid (vl fm km = n)) (HWz : Hid (Wa w vz kz fz)) (HFz : Hid (∀ i, i < kz → fz i < 4294967296)) (HVz : Hid (vl fz kz = mz)) (HAz : Hid ((if bbz then -((mz : Nat) : Int) else ((mz : Nat) : Int)) = b)) (hkxn : kxn ≤ 4) (hkxd : kxd ≤ 4) (hkm : 12 < km) (HT : Hid (Tab w)) :
    Calls Tryz.prog 6 #[.agg #[.bool bbxn, vxn, vxd], vm, .agg #[.bool bbz, vz]] w fun e w' => e = .returned (.bool true) ∧ Below w.heap.size w w' := by
  obtain ⟨ao_xn, c_xn, rfl⟩ := HWxn.out.slice
  obtain ⟨ao_xd, c_xd, rfl⟩ := HWxd.out.slice
  obtain ⟨ao_m, c_m, rfl⟩ := HWm.out.slice
  obtain ⟨ao_z, c_z, rfl⟩ := HWz.out.slice
  go_enter Tryz.func6, Tryz.ntmps6
  have HF := Lib.hid (hp0 w)
  refine kS fun K hK => ?_
  refine wp_region_lit ?_
  go_wp2
  refine hK.out _ _ ?_; clear hK K
  show Code.wp _ _ _ _ _
  refine fH (((HF.out).al (b := w.heap.size) (by first | rfl | simp) (by decide)).al (b := w.heap.size + 1) (by first | rfl | simp) (by decide)) fun Wx0 HG => ?_
  clear HF; have HF := HG; clear HG
  generalize w.heap.size + 1 = gx1 at *
  refine wp_seq ?_
  have hd1 : ¬ (4 < ((kxn : Int))) := ok
  have hd2 : ¬ (4 < ((kxd : Int))) := ok
  have hd3 : 12 < ((km : Int)) := ok
  have lx0 := HF.out.c 0 rfl
  refine kS fun K hK => ?_
  refine sq 22 [(true, 0), (true, 1), (true, 2), (true, 3), (true, 4), (true, 5), (true, 6), (true, 7), (true, 8), (true, 9), (true, 10), (true, 11), (true, 12), (true, 13), (true, 14), (true, 15), (true, 16), (true, 17), (true, 18), (true, 19), (true, 20), (true, 21)] fun T hT => ?_
  iterate 17 refine tk ?_
  iterate 4 refine sk ?_
  refine tk ?_
  refine nlS hT HF fun vw1 HG => ?_
  clear hT T HF lx0
  go_wp2
  refine hK.out _ _ ?_; clear hK K
  show Code.wp _ _ _ _ _
  have HF := HG; clear HG
  clear hd1 hd2 hd3
  refine wp_cond_true (by rfl) ?_
  have HB := HPb HF
  refine kS fun K hK => ?_
  refine sq 2 [(true, 0), (true, 1)] fun T hT => ?_
  refine ck Tryz.call27 (fun w' hw => works7_any _ (Lib.hid (HT.out.gr (Gr.trans HB.out hw)))) ?_
  refine tk ?_
  refine nlS hT HF fun vw2 HG => ?_
  clear hT T HF HB
  go_wp2
  refine hK.out _ _ ?_; clear hK K
  show Code.wp _ _ _ _ _
  have HF := HG; clear HG
  refine wp_ret ?_
  try simp only [Exit.then, Exit.inBlock]
  exact bodyPost_ret (v := .bool true) (by simp [results, Tryz.results6, go_sem]) rfl ⟨rfl, HF.out.1⟩

set_option maxRecDepth 100000 in
set_option maxHeartbeats 16000000 in
theorem there_big4 (bbxn : Bool) (vxn : Value) (kxn : Nat) (fxn : Nat → Nat) (mxn : Nat) (ixn : Int) (vxd : Value) (kxd : Nat) (fxd : Nat → Nat) (mxd : Nat) (a : Rat) (vm : Value) (km : Nat) (fm : Nat → Nat) (n : Nat) (bbz : Bool) (vz : Value) (kz : Nat) (fz : Nat → Nat) (mz : Nat) (b : Int)  (w : World) (HWxn : Hid (Wa w vxn kxn fxn)) (HFxn : Hid (∀ i, i < kxn → fxn i < 4294967296)) (HVxn : Hid (vl fxn kxn = mxn)) (HAxn : Hid ((if bbxn then -((mxn : Nat) : Int) else ((mxn : Nat) : Int)) = ixn)) (HWxd : Hid (Wa w vxd kxd fxd)) (HFxd : Hid (∀ i, i < kxd → fxd i < 4294967296)) (HVxd : Hid (vl fxd kxd = mxd)) (HQx : Hid (mkRat ixn (mxd + 1) = a)) (HWm : Hid (Wa w vm km fm)) (HFm : Hid (∀ i, i < km → fm i < 4294967296)) (HVm : Hid (vl fm km = n)) (HWz : Hid (Wa w vz kz fz)) (HFz : Hid (∀ i, i < kz → fz i < 4294967296)) (HVz : Hid (vl fz kz = mz)) (HAz : Hid ((if bbz then -((mz : Nat) : Int) else ((mz : Nat) : Int)) = b)) (hkxn : kxn ≤ 4) (hkxd : kxd ≤ 4) (hkm : km ≤ 12) (hkz : 12 < kz) (HT : Hid (Tab w)) :
    Calls Tryz.prog 6 #[.agg #[.bool bbxn, vxn, vxd], vm, .agg #[.bool bbz, vz]] w fun e w' => e = .returned (.bool true) ∧ Below w.heap.size w w' := by
  obtain ⟨ao_xn, c_xn, rfl⟩ := HWxn.out.slice
  obtain ⟨ao_xd, c_xd, rfl⟩ := HWxd.out.slice
  obtain ⟨ao_m, c_m, rfl⟩ := HWm.out.slice
  obtain ⟨ao_z, c_z, rfl⟩ := HWz.out.slice
  go_enter Tryz.func6, Tryz.ntmps6
  have HF := Lib.hid (hp0 w)
  refine kS fun K hK => ?_
  refine wp_region_lit ?_
  go_wp2
  refine hK.out _ _ ?_; clear hK K
  show Code.wp _ _ _ _ _
  refine fH (((HF.out).al (b := w.heap.size) (by first | rfl | simp) (by decide)).al (b := w.heap.size + 1) (by first | rfl | simp) (by decide)) fun Wx0 HG => ?_
  clear HF; have HF := HG; clear HG
  generalize w.heap.size + 1 = gx1 at *
  refine wp_seq ?_
  have hd1 : ¬ (4 < ((kxn : Int))) := ok
  have hd2 : ¬ (4 < ((kxd : Int))) := ok
  have hd3 : ¬ (12 < ((km : Int))) := ok
  have hd4 : 12 < ((kz : Int)) := ok
  have lx0 := HF.out.c 0 rfl
  have lx1 := HF.out.c 1 rfl
  refine kS fun K hK => ?_
  refine sq 22 [(true, 0), (true, 1), (true, 2), (true, 3), (true, 4), (true, 5), (true, 6), (true, 7), (true, 8), (true, 9), (true, 10), (true, 11), (true, 12), (true, 13), (true, 14), (true, 15), (true, 16), (true, 17), (true, 18), (true, 19), (true, 20), (true, 21)] fun T hT => ?_
  iterate 22 refine tk ?_
  refine nlS hT HF fun vw1 HG => ?_
  clear hT T HF lx0 lx1
  go_wp2
  refine hK.out _ _ ?_; clear hK K
  show Code.wp _ _ _ _ _
  have HF := HG; clear HG
  clear hd1 hd2 hd3 hd4
  refine wp_cond_true (by rfl) ?_
  have HB := HPb HF
  refine kS fun K hK => ?_
  refine sq 2 [(true, 0), (true, 1)] fun T hT => ?_
  refine ck Tryz.call27 (fun w' hw => works7_any _ (Lib.hid (HT.out.gr (Gr.trans HB.out hw)))) ?_
  refine tk ?_
  refine nlS hT HF fun vw2 HG => ?_
  clear hT T HF HB
  go_wp2
  refine hK.out _ _ ?_; clear hK K
  show Code.wp _ _ _ _ _
  have HF := HG; clear HG
  refine wp_ret ?_
  try simp only [Exit.then, Exit.inBlock]
  exact bodyPost_ret (v := .bool true) (by simp [results, Tryz.results6, go_sem]) rfl ⟨rfl, HF.out.1⟩

theorem there_law (bbxn : Bool) (vxn : Value) (kxn : Nat) (fxn : Nat → Nat) (vxd : Value) (kxd : Nat) (fxd : Nat → Nat) (vm : Value) (km : Nat) (fm : Nat → Nat) (bbz : Bool) (vz : Value) (kz : Nat) (fz : Nat → Nat) (w : World) (HWxn : Hid (Wa w vxn kxn fxn)) (HFxn : Hid (∀ i, i < kxn → fxn i < 4294967296)) (HWxd : Hid (Wa w vxd kxd fxd)) (HFxd : Hid (∀ i, i < kxd → fxd i < 4294967296)) (HWm : Hid (Wa w vm km fm)) (HFm : Hid (∀ i, i < km → fm i < 4294967296)) (HWz : Hid (Wa w vz kz fz)) (HFz : Hid (∀ i, i < kz → fz i < 4294967296))  (HT : Hid (Tab w)) :
    Calls Tryz.prog 6 #[.agg #[.bool bbxn, vxn, vxd], vm, .agg #[.bool bbz, vz]] w fun e w' => e = .returned (.bool true) ∧ Below w.heap.size w w' := by
  obtain ⟨ixn, HAxn⟩ : ∃ z, Hid ((if bbxn then -((vl fxn kxn : Nat) : Int) else ((vl fxn kxn : Nat) : Int)) = z) := ⟨_, Lib.hid rfl⟩
  obtain ⟨a, HQx⟩ : ∃ z, Hid (mkRat ixn (vl fxd kxd + 1) = z) := ⟨_, Lib.hid rfl⟩
  obtain ⟨n, HVm⟩ : ∃ z, Hid (vl fm km = z) := ⟨_, Lib.hid rfl⟩
  obtain ⟨b, HAz⟩ : ∃ z, Hid ((if bbz then -((vl fz kz : Nat) : Int) else ((vl fz kz : Nat) : Int)) = z) := ⟨_, Lib.hid rfl⟩
  by_cases hkxn : kxn ≤ 4
  · skip
    by_cases hkxd : kxd ≤ 4
    · skip
      by_cases hkm : km ≤ 12
      · skip
        by_cases hkz : kz ≤ 12
        · skip
          obtain ⟨z1, b1, hb1⟩ := bk_ex b n
          obtain ⟨z2, b2, hb2⟩ := bk_ex (a.num * (egcd ((n : Nat) : Int) ((a.den : Nat) : Int)).2.2) n
          exact there_main bbxn vxn kxn fxn _ ixn vxd kxd fxd _ a vm km fm n bbz vz kz fz _ b z1 z2 b1 b2 _ _ _ _ _ w HWxn HFxn (Lib.hid rfl) HAxn HWxd HFxd (Lib.hid rfl) HQx HWm HFm HVm HWz HFz (Lib.hid rfl) HAz hkxn hkxd hkm hkz (Lib.hid hb1) (Lib.hid rfl) (Lib.hid rfl) (Lib.hid rfl) (Lib.hid rfl) (Lib.hid hb2) (Lib.hid rfl) HT
        · exact there_big4 bbxn vxn kxn fxn _ ixn vxd kxd fxd _ a vm km fm n bbz vz kz fz _ b  w HWxn HFxn (Lib.hid rfl) HAxn HWxd HFxd (Lib.hid rfl) HQx HWm HFm HVm HWz HFz (Lib.hid rfl) HAz  hkxn hkxd hkm (by omega) HT
      · exact there_big3 bbxn vxn kxn fxn _ ixn vxd kxd fxd _ a vm km fm n bbz vz kz fz _ b  w HWxn HFxn (Lib.hid rfl) HAxn HWxd HFxd (Lib.hid rfl) HQx HWm HFm HVm HWz HFz (Lib.hid rfl) HAz  hkxn hkxd (by omega) HT
    · exact there_big2 bbxn vxn kxn fxn _ ixn vxd kxd fxd _ a vm km fm n bbz vz kz fz _ b  w HWxn HFxn (Lib.hid rfl) HAxn HWxd HFxd (Lib.hid rfl) HQx HWm HFm HVm HWz HFz (Lib.hid rfl) HAz  hkxn (by omega) HT
  · exact there_big1 bbxn vxn kxn fxn _ ixn vxd kxd fxd _ a vm km fm n bbz vz kz fz _ b  w HWxn HFxn (Lib.hid rfl) HAxn HWxd HFxd (Lib.hid rfl) HQx HWm HFm HVm HWz HFz (Lib.hid rfl) HAz   (by omega) HT

end Go.Proofs.YtobojnodohjiaaaGreatDoor
