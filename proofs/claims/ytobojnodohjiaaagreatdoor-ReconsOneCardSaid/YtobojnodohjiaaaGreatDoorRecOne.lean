
/- ReconsOne: the law's walk. -/
import Derived.Test.YtobojnodohjiaaaGreatDoorRecW
import Derived.Test.YtobojnodohjiaaaGreatDoorRecT
import Derived.Test.YtobojnodohjiaaaGreatDoorGreatP
import Derived.Test.YtobojnodohjiaaaGreatDoorHp2
import Derived.Test.YtobojnodohjiaaaGreatDoorLawZ2
namespace Go.Proofs.YtobojnodohjiaaaGreatDoor
open Go.RowKit
set_option linter.unusedSimpArgs false
set_option linter.unusedVariables false
attribute [local go_sem ↓] Go.wp_at_zero Go.wp_at_succ
attribute [local go_sem ↓] eq_nat eq_nat_zero eq_int eq_frac eq_frac_zero
attribute [local go_sem] Instr.field asAgg
set_option maxRecDepth 100000 in
set_option maxHeartbeats 16000000 in
theorem one_main (bbxn : Bool) (vxn : Value) (kxn : Nat) (fxn : Nat → Nat) (mxn : Nat) (ixn : Int) (vxd : Value) (kxd : Nat) (fxd : Nat → Nat) (mxd : Nat) (a : Rat) (bbyn : Bool) (vyn : Value) (kyn : Nat) (fyn : Nat → Nat) (myn : Nat) (iyn : Int) (vyd : Value) (kyd : Nat) (fyd : Nat → Nat) (myd : Nat) (c : Rat) (vm : Value) (km : Nat) (fm : Nat → Nat) (n : Nat) (t t2 t3 : Int) (z1 nz : Rat) (b1 : Bool) (w : World) (HWxn : Hid (Wa w vxn kxn fxn)) (HFxn : Hid (∀ i, i < kxn → fxn i < 4294967296)) (HVxn : Hid (vl fxn kxn = mxn)) (HAxn : Hid ((if bbxn then -((mxn : Nat) : Int) else ((mxn : Nat) : Int)) = ixn)) (HWxd : Hid (Wa w vxd kxd fxd)) (HFxd : Hid (∀ i, i < kxd → fxd i < 4294967296)) (HVxd : Hid (vl fxd kxd = mxd)) (HQx : Hid (mkRat ixn (mxd + 1) = a)) (HWyn : Hid (Wa w vyn kyn fyn)) (HFyn : Hid (∀ i, i < kyn → fyn i < 4294967296)) (HVyn : Hid (vl fyn kyn = myn)) (HAyn : Hid ((if bbyn then -((myn : Nat) : Int) else ((myn : Nat) : Int)) = iyn)) (HWyd : Hid (Wa w vyd kyd fyd)) (HFyd : Hid (∀ i, i < kyd → fyd i < 4294967296)) (HVyd : Hid (vl fyd kyd = myd)) (HQy : Hid (mkRat iyn (myd + 1) = c)) (HWm : Hid (Wa w vm km fm)) (HFm : Hid (∀ i, i < km → fm i < 4294967296)) (HVm : Hid (vl fm km = n)) (hkxn : kxn ≤ 2) (hkxd : kxd ≤ 2) (hkyn : kyn ≤ 2) (hkyd : kyd ≤ 2) (hkm : km ≤ 6) (ht1 : -9223372036854775808 ≤ t) (ht2 : t ≤ 9223372036854775807) (HB1 : Hid (bk t n z1 b1)) (HP2 : Hid (t + ((n : Nat) : Int) = t2)) (HB2 : Hid (bk t2 n z1 b1)) (HP3 : Hid (-t = t3)) (HNZ : Hid (-z1 = nz)) (HB3 : Hid (bk t3 n nz b1)) (HT : Hid (Tab w)) :
    Calls Tryz.prog 8 #[.agg #[.bool bbxn, vxn, vxd], .agg #[.bool bbyn, vyn, vyd], vm, .int .i64 (t)] w fun e w' => e = .returned (.bool true) ∧ Below w.heap.size w w' := by
  obtain ⟨ao_xn, c_xn, rfl⟩ := HWxn.out.slice
  obtain ⟨ao_xd, c_xd, rfl⟩ := HWxd.out.slice
  have hm_xn : wl mxn ≤ 2 := by rw [← HVxn.out]; have := wl_le.2 (vl_lt HFxn.out); omega
  have hm_xd : wl mxd ≤ 2 := by rw [← HVxd.out]; have := wl_le.2 (vl_lt HFxd.out); omega
  have hi_x : wl (Int.natAbs ixn) ≤ 2 := by rw [zsize HAxn.out]; exact hm_xn
  have hs_x : sz a ≤ 3 := by rw [← HQx.out]; exact sz_great hi_x hm_xd
  obtain ⟨ao_yn, c_yn, rfl⟩ := HWyn.out.slice
  obtain ⟨ao_yd, c_yd, rfl⟩ := HWyd.out.slice
  have hm_yn : wl myn ≤ 2 := by rw [← HVyn.out]; have := wl_le.2 (vl_lt HFyn.out); omega
  have hm_yd : wl myd ≤ 2 := by rw [← HVyd.out]; have := wl_le.2 (vl_lt HFyd.out); omega
  have hi_y : wl (Int.natAbs iyn) ≤ 2 := by rw [zsize HAyn.out]; exact hm_yn
  have hs_y : sz c ≤ 3 := by rw [← HQy.out]; exact sz_great hi_y hm_yd
  obtain ⟨ao_m, c_m, rfl⟩ := HWm.out.slice
  have hb_n : wl n ≤ 6 := by rw [← HVm.out]; have := wl_le.2 (vl_lt HFm.out); omega
  go_enter Tryz.func8, Tryz.ntmps8
  have HF := Lib.hid (hp0 w)
  refine kS fun K hK => ?_
  refine wp_region_lit ?_
  go_wp2
  refine hK.out _ _ ?_; clear hK K
  show Code.wp _ _ _ _ _
  refine fH (((HF.out).al (b := w.heap.size) (by first | rfl | simp) (by decide)).al (b := w.heap.size + 1) (by first | rfl | simp) (by decide)) fun Wx0 HG => ?_
  clear HF; have HF := HG; clear HG
  generalize w.heap.size + 1 = gx1 at *
  refine wp_seq ?_
  have hd1 : ¬ (2 < ((kxn : Int))) := ok
  have hd2 : ¬ (2 < ((kxd : Int))) := ok
  have hd3 : ¬ (2 < ((kyn : Int))) := ok
  have hd4 : ¬ (2 < ((kyd : Int))) := ok
  have hd5 : ¬ (6 < ((km : Int))) := ok
  have lx0 := HF.out.c 0 rfl
  have lx1 := HF.out.c 1 rfl
  refine kS fun K hK => ?_
  refine sq 29 [(true, 0), (true, 1), (true, 2), (true, 3), (true, 4), (true, 5), (true, 6), (true, 7), (true, 8), (true, 9), (true, 10), (true, 11), (true, 12), (true, 13), (true, 14), (true, 15), (true, 16), (true, 17), (true, 18), (true, 19), (true, 20), (true, 21), (true, 22), (true, 23), (true, 24), (true, 25), (true, 26), (true, 27), (true, 28)] fun T hT => ?_
  iterate 29 refine tk ?_
  refine nlS hT HF fun vw1 HG => ?_
  clear hT T HF lx0 lx1
  go_wp2
  refine hK.out _ _ ?_; clear hK K
  show Code.wp _ _ _ _ _
  have HF := HG; clear HG
  clear hd1 hd2 hd3 hd4 hd5
  refine wp_cond_false (by rfl) ?_
  refine wp_skip ?_
  show Code.wp _ _ _ _ _
  have HB := HPb HF
  have su1 : wl (Int.natAbs (t)) ≤ 2 := wl_i64 om om
  refine kS fun K hK => ?_
  refine sq 4 [(true, 0), (true, 1), (true, 2), (true, 3)] fun T hT => ?_
  refine tk ?_
  refine ck Tryz.call31 (fun w' hw => zmade _ km fm n w _ HVm.out (by omega) HWm.out (Gr.trans HB.out hw) HFm.out) ?_
  refine tk ?_
  refine ck Tryz.call23 (fun w' hw => iof_any (t) _ om om) ?_
  refine nlS hT HF fun vw2 HG => ?_
  clear hT T HF HB
  go_wp2
  refine hK.out _ _ ?_; clear hK K
  show Code.wp _ _ _ _ _
  refine fH (((HG.out).al (b := vw2.heap.size) (by first | rfl | simp) (by decide)).al (b := vw2.heap.size + 1) (by first | rfl | simp) (by decide)) fun Wx3 HF => ?_
  clear HG
  generalize vw2.heap.size + 1 = gx4 at *
  generalize vw2.heap.size = gx3 at *
  have HB := HPb HF
  have lx0 := HF.out.c 0 rfl
  have lx1 := HF.out.c 1 rfl
  refine kS fun K hK => ?_
  refine wp_region_plan 6 [4, 5] [] (fun i => if i = 4 then 11 else 12) (fun i => if i = 4 then .cells #[.int .u64 0, .string ⟨#[]⟩, .bool false, .int .u64 0, .string ⟨#[]⟩] 36 else .cells #[.int .u64 0, .string ⟨#[]⟩, .bool false, .int .u64 0, .string ⟨#[]⟩] 36) [(true, 0), (true, 2), (true, 1), (true, 3)] (by kernel_rfl) (by kernel_rfl) (by intro i hi; simp only [List.mem_cons, List.not_mem_nil, or_false] at hi; rcases hi with rfl | rfl <;> exact ⟨_, rfl, rfl, rfl, by simp, fun ρ w => by kernel_rfl⟩) (fun i hi => by cases hi) (fun _ _ _ _ _ h => h) (fun T hT => ?_)
  iterate 2 refine tk ?_
  refine ck Tryz.call35 (fun w' hw => gof_any bbxn kxn fxn mxn ixn kxd fxd mxd a ao_xn c_xn ao_xd c_xd w' (Lib.hid (HWxn.out.gr (Gr.trans HB.out hw))) HFxn HVxn HAxn (Lib.hid (HWxd.out.gr (Gr.trans HB.out hw))) HFxd HVxd HQx om om om om) ?_
  refine ck Tryz.call35 (fun w' hw => gof_any bbyn kyn fyn myn iyn kyd fyd myd c ao_yn c_yn ao_yd c_yd w' (Lib.hid (HWyn.out.gr (Gr.trans HB.out hw))) HFyn HVyn HAyn (Lib.hid (HWyd.out.gr (Gr.trans HB.out hw))) HFyd HVyd HQy om om om om) ?_
  refine wpPlan_nil (hT.out _ _ ?_)
  intro G vw3 hg hf
  simp only [puts, Act.put, lA, lB, lC, lD, lE, ↓reduceIte, Nat.reduceEqDiff]
  have HG := Lib.hid (HF.out.fr hg hf (zs := [(#[.int .u64 0, .string ⟨#[]⟩, .bool false, .int .u64 0, .string ⟨#[]⟩], 36), (#[.int .u64 0, .string ⟨#[]⟩, .bool false, .int .u64 0, .string ⟨#[]⟩], 36)]) rfl (by decide) (by decide))
  simp only [List.zip_cons_cons, List.zip_nil_right, List.map_cons, List.map_nil, lF, lG] at HG
  clear hT T HF hg hf lx0 lx1 HB
  generalize G 4 = gx5 at *
  generalize G 5 = gx6 at *
  have lx5 := HG.out.c 4 rfl; have fx5 := HG.out.f 4 rfl
  have lx6 := HG.out.c 5 rfl; have fx6 := HG.out.f 5 rfl
  have r0 := Gr.refl vw3
  obtain ⟨d5_6, d6_5⟩ := HG.out.ne 4 5 rfl rfl (by decide)
  go_wp2
  refine hK.out _ _ ?_; clear hK K
  show Code.wp _ _ _ _ _
  clear r0 lx5 fx5 lx6 fx6 d5_6 d6_5
  refine fH (((((((((HG.out).put2 4 0 rfl).put2 4 2 rfl).put 4 4 _ rfl).put2 5 0 rfl).put2 5 2 rfl).put 5 4 _ rfl).er 1).er 0) fun Wx4 HF => ?_
  clear HG
  refine wp_seq ?_
  refine kS fun K hK => ?_
  suffices HJ : Hid (∀ (g0 g1 g2 g3 g4 g5 g6 g7 g8 g11 g12 g13 g14 g15 g16 g17 g18 g19 g20 g21 g22 g23 g24 g25 g26 g27 g28 g29 g30 g31 g32 g33 g34 g35 g36 g37 g38 g39 g40 g41 g42 g43 g44 g45 g46 g47 g48 g49 g50 g51 g52 g53 g54 g55 g56 g57 g58 g59 g60 g61 g62 g63 g64 g65 g66 g67 g68 g69 g70 g71 g72 g73 g74 g75 g76 g77 g78 g79 g80 g82 g83 g84 g85 g86 g87 g88 g89 g90 g91 g92 g93 g94 g95 g96 g97 g98 g99 g100 g101 g102 g103 g104 g105 g106 g107 g108 g109 g110 g111 g112 g113 g114 g115 g116 g117 g118 g119 g120 g121 g122 g123 g124 g125 : Value) (wj : World), Hid (HP w wj [Sum.inl (gx3, 30, #[.int .u64 ((lo (n) : Nat) : Int), .string (bg (n))]), Sum.inl (gx4, 34, #[.int .u64 ((lo (Int.natAbs (t)) : Nat) : Int), .string (bg (Int.natAbs (t))), .bool (decide ((t) < 0))])]) → K { tmps := #[g0, g1, g2, g3, g4, g5, g6, g7, g8, .pointer (some ⟨gx3, 0, none⟩), .pointer (some ⟨gx4, 0, none⟩), g11, g12, g13, g14, g15, g16, g17, g18, g19, g20, g21, g22, g23, g24, g25, g26, g27, g28, g29, g30, g31, g32, g33, g34, g35, g36, g37, g38, g39, g40, g41, g42, g43, g44, g45, g46, g47, g48, g49, g50, g51, g52, g53, g54, g55, g56, g57, g58, g59, g60, g61, g62, g63, g64, g65, g66, g67, g68, g69, g70, g71, g72, g73, g74, g75, g76, g77, g78, g79, g80, .bool false, g82, g83, g84, g85, g86, g87, g88, g89, g90, g91, g92, g93, g94, g95, g96, g97, g98, g99, g100, g101, g102, g103, g104, g105, g106, g107, g108, g109, g110, g111, g112, g113, g114, g115, g116, g117, g118, g119, g120, g121, g122, g123, g124, g125], defers := [] } wj) by
    by_cases c1 : rfar a n
    · have H1 := Lib.hid c1
      by_cases c2 : rfar c n
      · have H2 := Lib.hid c2
        by_cases c3 : rfit a t n
        · have H3 := Lib.hid c3
          by_cases c4 : rfit c t n
          · have H4 := Lib.hid c4
            have HEQ : Hid (a = c) := Lib.hid (bk_uniq c1 c3 c2 c4)
            clear c1 c2 c3 c4
            have hdab : decide (a = c) = true := decide_eq_true HEQ.out
            have lx3 := HF.out.c 0 rfl
            have lx4 := HF.out.c 1 rfl
            have lx5 := HF.out.c 2 rfl
            have lx6 := HF.out.c 3 rfl
            refine sq 25 [(true, 0), (true, 1), (true, 2), (true, 3), (true, 4), (true, 5), (true, 6), (true, 7), (true, 8), (true, 9), (true, 10), (true, 11), (true, 12), (true, 13), (true, 14), (true, 15), (true, 16), (true, 17), (true, 18), (true, 19), (true, 20), (true, 21), (true, 22), (true, 23), (true, 24)] fun T hT => ?_
            iterate 2 refine tk ?_
            refine ck Tryz.call34 (fun w' hw => rFar (a) (n) true _ (decide_eq_true (H1.out)) om om) ?_
            iterate 3 refine tk ?_
            refine ck Tryz.call34 (fun w' hw => rFar (c) (n) true _ (decide_eq_true (H2.out)) om om) ?_
            iterate 5 refine tk ?_
            refine ck Tryz.call33 (fun w' hw => rFits (a) (t) (n) true _ (decide_eq_true (H3.out)) om om om) ?_
            iterate 5 refine tk ?_
            refine ck Tryz.call33 (fun w' hw => rFits (c) (t) (n) true _ (decide_eq_true (H4.out)) om om om) ?_
            iterate 6 refine tk ?_
            refine nlS hT HF fun vw4 HG => ?_
            clear hT T HF lx3 lx4 lx5 lx6
            go_wp2
            exact HJ.out _ _ _ _ _ _ _ _ _ _ _ _ _ _ _ _ _ _ _ _ _ _ _ _ _ _ _ _ _ _ _ _ _ _ _ _ _ _ _ _ _ _ _ _ _ _ _ _ _ _ _ _ _ _ _ _ _ _ _ _ _ _ _ _ _ _ _ _ _ _ _ _ _ _ _ _ _ _ _ _ _ _ _ _ _ _ _ _ _ _ _ _ _ _ _ _ _ _ _ _ _ _ _ _ _ _ _ _ _ _ _ _ _ _ _ _ _ _ _ _ _ _ _ _ (Lib.hid (((HG.out).er 3).er 2))
          · have H4 := Lib.hid c4
            clear c1 c2 c3 c4
            have lx3 := HF.out.c 0 rfl
            have lx4 := HF.out.c 1 rfl
            have lx5 := HF.out.c 2 rfl
            have lx6 := HF.out.c 3 rfl
            refine sq 25 [(true, 0), (true, 1), (true, 2), (true, 3), (true, 4), (true, 5), (true, 6), (true, 7), (true, 8), (true, 9), (true, 10), (true, 11), (true, 12), (true, 13), (true, 14), (true, 15), (true, 16), (true, 17), (true, 18), (true, 19), (true, 20), (true, 21), (true, 22), (true, 23), (true, 24)] fun T hT => ?_
            iterate 2 refine tk ?_
            refine ck Tryz.call34 (fun w' hw => rFar (a) (n) true _ (decide_eq_true (H1.out)) om om) ?_
            iterate 3 refine tk ?_
            refine ck Tryz.call34 (fun w' hw => rFar (c) (n) true _ (decide_eq_true (H2.out)) om om) ?_
            iterate 5 refine tk ?_
            refine ck Tryz.call33 (fun w' hw => rFits (a) (t) (n) true _ (decide_eq_true (H3.out)) om om om) ?_
            iterate 5 refine tk ?_
            refine ck Tryz.call33 (fun w' hw => rFits (c) (t) (n) false _ (decide_eq_false (H4.out)) om om om) ?_
            iterate 2 refine tk ?_
            iterate 3 refine sk ?_
            refine tk ?_
            refine nlS hT HF fun vw4 HG => ?_
            clear hT T HF lx3 lx4 lx5 lx6
            go_wp2
            exact HJ.out _ _ _ _ _ _ _ _ _ _ _ _ _ _ _ _ _ _ _ _ _ _ _ _ _ _ _ _ _ _ _ _ _ _ _ _ _ _ _ _ _ _ _ _ _ _ _ _ _ _ _ _ _ _ _ _ _ _ _ _ _ _ _ _ _ _ _ _ _ _ _ _ _ _ _ _ _ _ _ _ _ _ _ _ _ _ _ _ _ _ _ _ _ _ _ _ _ _ _ _ _ _ _ _ _ _ _ _ _ _ _ _ _ _ _ _ _ _ _ _ _ _ _ _ (Lib.hid (((HG.out).er 3).er 2))
        · have H3 := Lib.hid c3
          clear c1 c2 c3
          have lx3 := HF.out.c 0 rfl
          have lx4 := HF.out.c 1 rfl
          have lx5 := HF.out.c 2 rfl
          have lx6 := HF.out.c 3 rfl
          refine sq 25 [(true, 0), (true, 1), (true, 2), (true, 3), (true, 4), (true, 5), (true, 6), (true, 7), (true, 8), (true, 9), (true, 10), (true, 11), (true, 12), (true, 13), (true, 14), (true, 15), (true, 16), (true, 17), (true, 18), (true, 19), (true, 20), (true, 21), (true, 22), (true, 23), (true, 24)] fun T hT => ?_
          iterate 2 refine tk ?_
          refine ck Tryz.call34 (fun w' hw => rFar (a) (n) true _ (decide_eq_true (H1.out)) om om) ?_
          iterate 3 refine tk ?_
          refine ck Tryz.call34 (fun w' hw => rFar (c) (n) true _ (decide_eq_true (H2.out)) om om) ?_
          iterate 5 refine tk ?_
          refine ck Tryz.call33 (fun w' hw => rFits (a) (t) (n) false _ (decide_eq_false (H3.out)) om om om) ?_
          iterate 2 refine tk ?_
          iterate 4 refine sk ?_
          iterate 2 refine tk ?_
          iterate 3 refine sk ?_
          refine tk ?_
          refine nlS hT HF fun vw4 HG => ?_
          clear hT T HF lx3 lx4 lx5 lx6
          go_wp2
          exact HJ.out _ _ _ _ _ _ _ _ _ _ _ _ _ _ _ _ _ _ _ _ _ _ _ _ _ _ _ _ _ _ _ _ _ _ _ _ _ _ _ _ _ _ _ _ _ _ _ _ _ _ _ _ _ _ _ _ _ _ _ _ _ _ _ _ _ _ _ _ _ _ _ _ _ _ _ _ _ _ _ _ _ _ _ _ _ _ _ _ _ _ _ _ _ _ _ _ _ _ _ _ _ _ _ _ _ _ _ _ _ _ _ _ _ _ _ _ _ _ _ _ _ _ _ _ (Lib.hid (((HG.out).er 3).er 2))
      · have H2 := Lib.hid c2
        clear c1 c2
        have lx3 := HF.out.c 0 rfl
        have lx4 := HF.out.c 1 rfl
        have lx5 := HF.out.c 2 rfl
        have lx6 := HF.out.c 3 rfl
        refine sq 25 [(true, 0), (true, 1), (true, 2), (true, 3), (true, 4), (true, 5), (true, 6), (true, 7), (true, 8), (true, 9), (true, 10), (true, 11), (true, 12), (true, 13), (true, 14), (true, 15), (true, 16), (true, 17), (true, 18), (true, 19), (true, 20), (true, 21), (true, 22), (true, 23), (true, 24)] fun T hT => ?_
        iterate 2 refine tk ?_
        refine ck Tryz.call34 (fun w' hw => rFar (a) (n) true _ (decide_eq_true (H1.out)) om om) ?_
        iterate 3 refine tk ?_
        refine ck Tryz.call34 (fun w' hw => rFar (c) (n) false _ (decide_eq_false (H2.out)) om om) ?_
        iterate 2 refine tk ?_
        iterate 4 refine sk ?_
        iterate 2 refine tk ?_
        iterate 4 refine sk ?_
        iterate 2 refine tk ?_
        iterate 3 refine sk ?_
        refine tk ?_
        refine nlS hT HF fun vw4 HG => ?_
        clear hT T HF lx3 lx4 lx5 lx6
        go_wp2
        exact HJ.out _ _ _ _ _ _ _ _ _ _ _ _ _ _ _ _ _ _ _ _ _ _ _ _ _ _ _ _ _ _ _ _ _ _ _ _ _ _ _ _ _ _ _ _ _ _ _ _ _ _ _ _ _ _ _ _ _ _ _ _ _ _ _ _ _ _ _ _ _ _ _ _ _ _ _ _ _ _ _ _ _ _ _ _ _ _ _ _ _ _ _ _ _ _ _ _ _ _ _ _ _ _ _ _ _ _ _ _ _ _ _ _ _ _ _ _ _ _ _ _ _ _ _ _ (Lib.hid (((HG.out).er 3).er 2))
    · have H1 := Lib.hid c1
      clear c1
      have lx3 := HF.out.c 0 rfl
      have lx4 := HF.out.c 1 rfl
      have lx5 := HF.out.c 2 rfl
      have lx6 := HF.out.c 3 rfl
      refine sq 25 [(true, 0), (true, 1), (true, 2), (true, 3), (true, 4), (true, 5), (true, 6), (true, 7), (true, 8), (true, 9), (true, 10), (true, 11), (true, 12), (true, 13), (true, 14), (true, 15), (true, 16), (true, 17), (true, 18), (true, 19), (true, 20), (true, 21), (true, 22), (true, 23), (true, 24)] fun T hT => ?_
      iterate 2 refine tk ?_
      refine ck Tryz.call34 (fun w' hw => rFar (a) (n) false _ (decide_eq_false (H1.out)) om om) ?_
      refine tk ?_
      iterate 3 refine sk ?_
      iterate 2 refine tk ?_
      iterate 4 refine sk ?_
      iterate 2 refine tk ?_
      iterate 4 refine sk ?_
      iterate 2 refine tk ?_
      iterate 3 refine sk ?_
      refine tk ?_
      refine nlS hT HF fun vw4 HG => ?_
      clear hT T HF lx3 lx4 lx5 lx6
      go_wp2
      exact HJ.out _ _ _ _ _ _ _ _ _ _ _ _ _ _ _ _ _ _ _ _ _ _ _ _ _ _ _ _ _ _ _ _ _ _ _ _ _ _ _ _ _ _ _ _ _ _ _ _ _ _ _ _ _ _ _ _ _ _ _ _ _ _ _ _ _ _ _ _ _ _ _ _ _ _ _ _ _ _ _ _ _ _ _ _ _ _ _ _ _ _ _ _ _ _ _ _ _ _ _ _ _ _ _ _ _ _ _ _ _ _ _ _ _ _ _ _ _ _ _ _ _ _ _ _ (Lib.hid (((HG.out).er 3).er 2))
  refine Lib.hid ?_
  intro g0 g1 g2 g3 g4 g5 g6 g7 g8 g11 g12 g13 g14 g15 g16 g17 g18 g19 g20 g21 g22 g23 g24 g25 g26 g27 g28 g29 g30 g31 g32 g33 g34 g35 g36 g37 g38 g39 g40 g41 g42 g43 g44 g45 g46 g47 g48 g49 g50 g51 g52 g53 g54 g55 g56 g57 g58 g59 g60 g61 g62 g63 g64 g65 g66 g67 g68 g69 g70 g71 g72 g73 g74 g75 g76 g77 g78 g79 g80 g82 g83 g84 g85 g86 g87 g88 g89 g90 g91 g92 g93 g94 g95 g96 g97 g98 g99 g100 g101 g102 g103 g104 g105 g106 g107 g108 g109 g110 g111 g112 g113 g114 g115 g116 g117 g118 g119 g120 g121 g122 g123 g124 g125 wj HFJ
  clear HF; have HF := HFJ; clear HFJ
  refine hK.out _ _ ?_; clear hK K
  show Code.wp _ _ _ _ _
  refine wp_cond_false (by rfl) ?_
  refine wp_skip ?_
  show Code.wp _ _ _ _ _
  have su2 : sz (z1) ≤ 6 := bk_size (HB1.out) om (by decide)
  have lx3 := HF.out.c 0 rfl
  have lx4 := HF.out.c 1 rfl
  refine kS fun K hK => ?_
  refine sq 6 [(true, 0), (true, 1), (true, 2), (true, 3), (true, 4), (true, 5)] fun T hT => ?_
  iterate 2 refine tk ?_
  refine ck Tryz.call22 (fun w' hw => rback (t) (n) (z1) b1 _ (HB1.out) om om) ?_
  iterate 3 refine tk ?_
  refine nlS hT HF fun vw4 HG => ?_
  clear hT T HF lx3 lx4
  go_wp2
  refine hK.out _ _ ?_; clear hK K
  show Code.wp _ _ _ _ _
  refine fH ((HG.out).al (b := vw4.heap.size) (by first | rfl | simp) (by decide)) fun Wx7 HF => ?_
  clear HG
  generalize vw4.heap.size = gx7 at *
  have HZ3 : Hid ((if false then -((n : Nat) : Int) else ((n : Nat) : Int)) = ((n : Nat) : Int)) := Lib.hid (by rfl)
  have su3 : wl (Int.natAbs (((n : Nat) : Int))) ≤ 6 := by have e := HZ3.out; first | omega | (rw [← e]; split <;> simp <;> omega)
  have HZ4 : Hid ((t) + (((n : Nat) : Int)) = t2) := Lib.hid (HP2.out)
  have su4 : wl (Int.natAbs (t2)) ≤ 7 := by have e := HZ4.out; first | omega | (rw [← e]; have := wl_iadd (t) (((n : Nat) : Int)); omega)
  have su5 : sz (z1) ≤ 6 := bk_size (HB2.out) om (by decide)
  have lx3 := HF.out.c 0 rfl
  have lx4 := HF.out.c 1 rfl
  refine kS fun K hK => ?_
  refine wp_region_plan 10 [9] [8] (fun _ => 15) (fun _ => .cells #[.int .u64 0, .string ⟨#[]⟩, .bool false, .int .u64 0, .string ⟨#[]⟩] 36) [(true, 0), (true, 1), (true, 4), (true, 2), (true, 3), (true, 5), (true, 6), (true, 7), (true, 8)] (by kernel_rfl) (by kernel_rfl) (by intro i hi; simp only [List.mem_cons, List.not_mem_nil, or_false] at hi; rcases hi with rfl <;> exact ⟨_, rfl, rfl, rfl, by simp, fun ρ w => by kernel_rfl⟩) (by intro i hi; simp only [List.mem_cons, List.not_mem_nil, or_false] at hi; rcases hi with rfl <;> exact ⟨_, rfl, pure_extract⟩) (fun _ _ _ _ _ h => h) (fun T hT => ?_)
  iterate 3 refine tk ?_
  refine ck Tryz.call37 (fun w' hw => from_any false (n) (((n : Nat) : Int)) _ HZ3.out) ?_
  refine ck Tryz.call41 (fun w' hw => ziadd (t) (((n : Nat) : Int)) (t2) _ HZ4.out om om) ?_
  refine ck Tryz.call22 (fun w' hw => rback (t2) (n) (z1) b1 _ (HB2.out) om om) ?_
  iterate 3 refine tk ?_
  refine wpPlan_nil (hT.out _ _ ?_)
  intro G vw5 hg hf
  simp only [puts, Act.put, lA, lB, lC, lD, lE, ↓reduceIte, Nat.reduceEqDiff]
  have HG := Lib.hid (HF.out.fr hg hf (zs := [(#[.int .u64 0, .string ⟨#[]⟩, .bool false, .int .u64 0, .string ⟨#[]⟩], 36)]) rfl (by decide) (by decide))
  simp only [List.zip_cons_cons, List.zip_nil_right, List.map_cons, List.map_nil, lF, lG] at HG
  clear hT T HF hg hf lx3 lx4
  generalize G 9 = gx8 at *
  have lx8 := HG.out.c 3 rfl; have fx8 := HG.out.f 3 rfl
  have r0 := Gr.refl vw5
  go_wp2
  refine hK.out _ _ ?_; clear hK K
  show Code.wp _ _ _ _ _
  clear r0 lx8 fx8
  refine fH ((((HG.out).put2 3 0 rfl).put2 3 2 rfl).put 3 4 _ rfl) fun Wx8 HF => ?_
  clear HG
  have HZ6 : Hid (-(t) = t3) := Lib.hid (HP3.out)
  have su6 : wl (Int.natAbs (t3)) ≤ 2 := by have e := HZ6.out; first | omega | (rw [← e]; rw [Int.natAbs_neg]; omega)
  have su7 : sz (nz) ≤ 6 := bk_size (HB3.out) om (by decide)
  have lx3 := HF.out.c 0 rfl
  have lx4 := HF.out.c 1 rfl
  refine kS fun K hK => ?_
  refine wp_region_plan 8 [7] [6] (fun _ => 17) (fun _ => .cells #[.int .u64 0, .string ⟨#[]⟩, .bool false, .int .u64 0, .string ⟨#[]⟩] 36) [(true, 0), (true, 2), (true, 1), (true, 3), (true, 4), (true, 5), (true, 6)] (by kernel_rfl) (by kernel_rfl) (by intro i hi; simp only [List.mem_cons, List.not_mem_nil, or_false] at hi; rcases hi with rfl <;> exact ⟨_, rfl, rfl, rfl, by simp, fun ρ w => by kernel_rfl⟩) (by intro i hi; simp only [List.mem_cons, List.not_mem_nil, or_false] at hi; rcases hi with rfl <;> exact ⟨_, rfl, pure_extract⟩) (fun _ _ _ _ _ h => h) (fun T hT => ?_)
  iterate 2 refine tk ?_
  refine ck Tryz.call44 (fun w' hw => zineg (t) (t3) _ HZ6.out) ?_
  refine ck Tryz.call22 (fun w' hw => rback (t3) (n) (nz) b1 _ (HB3.out) om om) ?_
  iterate 3 refine tk ?_
  refine wpPlan_nil (hT.out _ _ ?_)
  intro G vw6 hg hf
  simp only [puts, Act.put, lA, lB, lC, lD, lE, ↓reduceIte, Nat.reduceEqDiff]
  have HG := Lib.hid (HF.out.fr hg hf (zs := [(#[.int .u64 0, .string ⟨#[]⟩, .bool false, .int .u64 0, .string ⟨#[]⟩], 36)]) rfl (by decide) (by decide))
  simp only [List.zip_cons_cons, List.zip_nil_right, List.map_cons, List.map_nil, lF, lG] at HG
  clear hT T HF hg hf lx3 lx4
  generalize G 7 = gx9 at *
  have lx9 := HG.out.c 4 rfl; have fx9 := HG.out.f 4 rfl
  have r0 := Gr.refl vw6
  go_wp2
  refine hK.out _ _ ?_; clear hK K
  show Code.wp _ _ _ _ _
  clear r0 lx9 fx9
  refine fH ((((((HG.out).put2 4 0 rfl).put2 4 2 rfl).put 4 4 _ rfl).er 1).er 0) fun Wx9 HF => ?_
  clear HG
  have HB := HPb HF
  have hbb6 : (b1 == b1) = true := by simp
  have HZ8 : Hid (-(z1) = nz) := Lib.hid (HNZ.out)
  have su8 : sz (nz) ≤ 6 := by have e := HZ8.out; first | omega | (rw [← e]; rw [sz_neg]; omega)
  have hbb17 : (b1 == b1) = true := by simp
  have lx7 := HF.out.c 0 rfl
  have lx8 := HF.out.c 1 rfl
  have lx9 := HF.out.c 2 rfl
  refine kS fun K hK => ?_
  refine pd 22 [(true, 0), (true, 1), (true, 2), (true, 3), (true, 4), (true, 5), (true, 6), (true, 7), (true, 8), (true, 9), (true, 10), (true, 11), (true, 12), (true, 13), (true, 14), (true, 15), (true, 16), (true, 17), (true, 18), (true, 19), (true, 20), (true, 21)] fun T hT => ?_
  iterate 11 refine tk ?_
  refine ck Tryz.call45 (fun w' hw => fneg_any (z1) (nz) _ HZ8.out) ?_
  iterate 8 refine tk ?_
  refine ck Tryz.call27 (fun w' hw => works7_any _ (Lib.hid (HT.out.gr (Gr.trans HB.out hw)))) ?_
  refine tk ?_
  refine nlD hT HF fun vw7 HG => ?_
  clear hT T HF lx7 lx8 lx9 HB
  go_wp2
  refine hK.out _ _ ?_; clear hK K
  show Code.wp _ _ _ _ _
  refine fH ((((HG.out).er 2).er 1).er 0) fun Wx10 HF => ?_
  clear HG
  clear hbb6 hbb17
  refine wp_ret ?_
  try simp only [Exit.then, Exit.inBlock]
  exact bodyPost_ret (v := .bool true) (by simp [results, Tryz.results8, go_sem]) rfl ⟨rfl, HF.out.1⟩

set_option maxRecDepth 100000 in
set_option maxHeartbeats 16000000 in
theorem one_big1 (bbxn : Bool) (vxn : Value) (kxn : Nat) (fxn : Nat → Nat) (mxn : Nat) (ixn : Int) (vxd : Value) (kxd : Nat) (fxd : Nat → Nat) (mxd : Nat) (a : Rat) (bbyn : Bool) (vyn : Value) (kyn : Nat) (fyn : Nat → Nat) (myn : Nat) (iyn : Int) (vyd : Value) (kyd : Nat) (fyd : Nat → Nat) (myd : Nat) (c : Rat) (vm : Value) (km : Nat) (fm : Nat → Nat) (n : Nat) (t : Int) (w : World) (HWxn : Hid (Wa w vxn kxn fxn)) (HFxn : Hid (∀ i, i < kxn → fxn i < 4294967296)) (HVxn : Hid (vl fxn kxn = mxn)) (HAxn : Hid ((if bbxn then -((mxn : Nat) : Int) else ((mxn : Nat) : Int)) = ixn)) (HWxd : Hid (Wa w vxd kxd fxd)) (HFxd : Hid (∀ i, i < kxd → fxd i < 4294967296)) (HVxd : Hid (vl fxd kxd = mxd)) (HQx : Hid (mkRat ixn (mxd + 1) = a)) (HWyn : Hid (Wa w vyn kyn fyn)) (HFyn : Hid (∀ i, i < kyn → fyn i < 4294967296)) (HVyn : Hid (vl fyn kyn = myn)) (HAyn : Hid ((if bbyn then -((myn : Nat) : Int) else ((myn : Nat) : Int)) = iyn)) (HWyd : Hid (Wa w vyd kyd fyd)) (HFyd : Hid (∀ i, i < kyd → fyd i < 4294967296)) (HVyd : Hid (vl fyd kyd = myd)) (HQy : Hid (mkRat iyn (myd + 1) = c)) (HWm : Hid (Wa w vm km fm)) (HFm : Hid (∀ i, i < km → fm i < 4294967296)) (HVm : Hid (vl fm km = n))  (hkxn : 2 < kxn) (HT : Hid (Tab w)) :
    Calls Tryz.prog 8 #[.agg #[.bool bbxn, vxn, vxd], .agg #[.bool bbyn, vyn, vyd], vm, .int .i64 (t)] w fun e w' => e = .returned (.bool true) ∧ Below w.heap.size w w' := by
  obtain ⟨ao_xn, c_xn, rfl⟩ := HWxn.out.slice
  obtain ⟨ao_xd, c_xd, rfl⟩ := HWxd.out.slice
  obtain ⟨ao_yn, c_yn, rfl⟩ := HWyn.out.slice
  obtain ⟨ao_yd, c_yd, rfl⟩ := HWyd.out.slice
  obtain ⟨ao_m, c_m, rfl⟩ := HWm.out.slice
  go_enter Tryz.func8, Tryz.ntmps8
  have HF := Lib.hid (hp0 w)
  refine kS fun K hK => ?_
  refine wp_region_lit ?_
  go_wp2
  refine hK.out _ _ ?_; clear hK K
  show Code.wp _ _ _ _ _
  refine fH (((HF.out).al (b := w.heap.size) (by first | rfl | simp) (by decide)).al (b := w.heap.size + 1) (by first | rfl | simp) (by decide)) fun Wx0 HG => ?_
  clear HF; have HF := HG; clear HG
  generalize w.heap.size + 1 = gx1 at *
  refine wp_seq ?_
  have hd1 : 2 < ((kxn : Int)) := ok
  have lx0 := HF.out.c 0 rfl
  refine kS fun K hK => ?_
  refine sq 29 [(true, 0), (true, 1), (true, 2), (true, 3), (true, 4), (true, 5), (true, 6), (true, 7), (true, 8), (true, 9), (true, 10), (true, 11), (true, 12), (true, 13), (true, 14), (true, 15), (true, 16), (true, 17), (true, 18), (true, 19), (true, 20), (true, 21), (true, 22), (true, 23), (true, 24), (true, 25), (true, 26), (true, 27), (true, 28)] fun T hT => ?_
  iterate 6 refine tk ?_
  iterate 4 refine sk ?_
  iterate 2 refine tk ?_
  iterate 5 refine sk ?_
  iterate 2 refine tk ?_
  iterate 4 refine sk ?_
  iterate 2 refine tk ?_
  iterate 3 refine sk ?_
  refine tk ?_
  refine nlS hT HF fun vw1 HG => ?_
  clear hT T HF lx0
  go_wp2
  refine hK.out _ _ ?_; clear hK K
  show Code.wp _ _ _ _ _
  have HF := HG; clear HG
  clear hd1
  refine wp_cond_true (by rfl) ?_
  have HB := HPb HF
  refine kS fun K hK => ?_
  refine sq 2 [(true, 0), (true, 1)] fun T hT => ?_
  refine ck Tryz.call27 (fun w' hw => works7_any _ (Lib.hid (HT.out.gr (Gr.trans HB.out hw)))) ?_
  refine tk ?_
  refine nlS hT HF fun vw2 HG => ?_
  clear hT T HF HB
  go_wp2
  refine hK.out _ _ ?_; clear hK K
  show Code.wp _ _ _ _ _
  have HF := HG; clear HG
  refine wp_ret ?_
  try simp only [Exit.then, Exit.inBlock]
  exact bodyPost_ret (v := .bool true) (by simp [results, Tryz.results8, go_sem]) rfl ⟨rfl, HF.out.1⟩

set_option maxRecDepth 100000 in
set_option maxHeartbeats 16000000 in
theorem one_big2 (bbxn : Bool) (vxn : Value) (kxn : Nat) (fxn : Nat → Nat) (mxn : Nat) (ixn : Int) (vxd : Value) (kxd : Nat) (fxd : Nat → Nat) (mxd : Nat) (a : Rat) (bbyn : Bool) (vyn : Value) (kyn : Nat) (fyn : Nat → Nat) (myn : Nat) (iyn : Int) (vyd : Value) (kyd : Nat) (fyd : Nat → Nat) (myd : Nat) (c : Rat) (vm : Value) (km : Nat) (fm : Nat → Nat) (n : Nat) (t : Int) (w : World) (HWxn : Hid (Wa w vxn kxn fxn)) (HFxn : Hid (∀ i, i < kxn → fxn i < 4294967296)) (HVxn : Hid (vl fxn kxn = mxn)) (HAxn : Hid ((if bbxn then -((mxn : Nat) : Int) else ((mxn : Nat) : Int)) = ixn)) (HWxd : Hid (Wa w vxd kxd fxd)) (HFxd : Hid (∀ i, i < kxd → fxd i < 4294967296)) (HVxd : Hid (vl fxd kxd = mxd)) (HQx : Hid (mkRat ixn (mxd + 1) = a)) (HWyn : Hid (Wa w vyn kyn fyn)) (HFyn : Hid (∀ i, i < kyn → fyn i < 4294967296)) (HVyn : Hid (vl fyn kyn = myn)) (HAyn : Hid ((if bbyn then -((myn : Nat) : Int) else ((myn : Nat) : Int)) = iyn)) (HWyd : Hid (Wa w vyd kyd fyd)) (HFyd : Hid (∀ i, i < kyd → fyd i < 4294967296)) (HVyd : Hid (vl fyd kyd = myd)) (HQy : Hid (mkRat iyn (myd + 1) = c)) (HWm : Hid (Wa w vm km fm)) (HFm : Hid (∀ i, i < km → fm i < 4294967296)) (HVm : Hid (vl fm km = n)) (hkxn : kxn ≤ 2) (hkxd : 2 < kxd) (HT : Hid (Tab w)) :
    Calls Tryz.prog 8 #[.agg #[.bool bbxn, vxn, vxd], .agg #[.bool bbyn, vyn, vyd], vm, .int .i64 (t)] w fun e w' => e = .returned (.bool true) ∧ Below w.heap.size w w' := by
  obtain ⟨ao_xn, c_xn, rfl⟩ := HWxn.out.slice
  obtain ⟨ao_xd, c_xd, rfl⟩ := HWxd.out.slice
  obtain ⟨ao_yn, c_yn, rfl⟩ := HWyn.out.slice
  obtain ⟨ao_yd, c_yd, rfl⟩ := HWyd.out.slice
  obtain ⟨ao_m, c_m, rfl⟩ := HWm.out.slice
  go_enter Tryz.func8, Tryz.ntmps8
  have HF := Lib.hid (hp0 w)
  refine kS fun K hK => ?_
  refine wp_region_lit ?_
  go_wp2
  refine hK.out _ _ ?_; clear hK K
  show Code.wp _ _ _ _ _
  refine fH (((HF.out).al (b := w.heap.size) (by first | rfl | simp) (by decide)).al (b := w.heap.size + 1) (by first | rfl | simp) (by decide)) fun Wx0 HG => ?_
  clear HF; have HF := HG; clear HG
  generalize w.heap.size + 1 = gx1 at *
  refine wp_seq ?_
  have hd1 : ¬ (2 < ((kxn : Int))) := ok
  have hd2 : 2 < ((kxd : Int)) := ok
  have lx0 := HF.out.c 0 rfl
  refine kS fun K hK => ?_
  refine sq 29 [(true, 0), (true, 1), (true, 2), (true, 3), (true, 4), (true, 5), (true, 6), (true, 7), (true, 8), (true, 9), (true, 10), (true, 11), (true, 12), (true, 13), (true, 14), (true, 15), (true, 16), (true, 17), (true, 18), (true, 19), (true, 20), (true, 21), (true, 22), (true, 23), (true, 24), (true, 25), (true, 26), (true, 27), (true, 28)] fun T hT => ?_
  iterate 12 refine tk ?_
  iterate 5 refine sk ?_
  iterate 2 refine tk ?_
  iterate 4 refine sk ?_
  iterate 2 refine tk ?_
  iterate 3 refine sk ?_
  refine tk ?_
  refine nlS hT HF fun vw1 HG => ?_
  clear hT T HF lx0
  go_wp2
  refine hK.out _ _ ?_; clear hK K
  show Code.wp _ _ _ _ _
  have HF := HG; clear HG
  clear hd1 hd2
  refine wp_cond_true (by rfl) ?_
  have HB := HPb HF
  refine kS fun K hK => ?_
  refine sq 2 [(true, 0), (true, 1)] fun T hT => ?_
  refine ck Tryz.call27 (fun w' hw => works7_any _ (Lib.hid (HT.out.gr (Gr.trans HB.out hw)))) ?_
  refine tk ?_
  refine nlS hT HF fun vw2 HG => ?_
  clear hT T HF HB
  go_wp2
  refine hK.out _ _ ?_; clear hK K
  show Code.wp _ _ _ _ _
  have HF := HG; clear HG
  refine wp_ret ?_
  try simp only [Exit.then, Exit.inBlock]
  exact bodyPost_ret (v := .bool true) (by simp [results, Tryz.results8, go_sem]) rfl ⟨rfl, HF.out.1⟩

set_option maxRecDepth 100000 in
set_option maxHeartbeats 16000000 in
theorem one_big3 (bbxn : Bool) (vxn : Value) (kxn : Nat) (fxn : Nat → Nat) (mxn : Nat) (ixn : Int) (vxd : Value) (kxd : Nat) (fxd : Nat → Nat) (mxd : Nat) (a : Rat) (bbyn : Bool) (vyn : Value) (kyn : Nat) (fyn : Nat → Nat) (myn : Nat) (iyn : Int) (vyd : Value) (kyd : Nat) (fyd : Nat → Nat) (myd : Nat) (c : Rat) (vm : Value) (km : Nat) (fm : Nat → Nat) (n : Nat) (t : Int) (w : World) (HWxn : Hid (Wa w vxn kxn fxn)) (HFxn : Hid (∀ i, i < kxn → fxn i < 4294967296)) (HVxn : Hid (vl fxn kxn = mxn)) (HAxn : Hid ((if bbxn then -((mxn : Nat) : Int) else ((mxn : Nat) : Int)) = ixn)) (HWxd : Hid (Wa w vxd kxd fxd)) (HFxd : Hid (∀ i, i < kxd → fxd i < 4294967296)) (HVxd : Hid (vl fxd kxd = mxd)) (HQx : Hid (mkRat ixn (mxd + 1) = a)) (HWyn : Hid (Wa w vyn kyn fyn)) (HFyn : Hid (∀ i, i < kyn → fyn i < 4294967296)) (HVyn : Hid (vl fyn kyn = myn)) (HAyn : Hid ((if bbyn then -((myn : Nat) : Int) else ((myn : Nat) : Int)) = iyn)) (HWyd : Hid (Wa w vyd kyd fyd)) (HFyd : Hid (∀ i, i < kyd → fyd i < 4294967296)) (HVyd : Hid (vl fyd kyd = myd)) (HQy : Hid (mkRat iyn (myd + 1) = c)) (HWm : Hid (Wa w vm km fm)) (HFm : Hid (∀ i, i < km → fm i < 4294967296)) (HVm : Hid (vl fm km = n)) (hkxn : kxn ≤ 2) (hkxd : kxd ≤ 2) (hkyn : 2 < kyn) (HT : Hid (Tab w)) :
    Calls Tryz.prog 8 #[.agg #[.bool bbxn, vxn, vxd], .agg #[.bool bbyn, vyn, vyd], vm, .int .i64 (t)] w fun e w' => e = .returned (.bool true) ∧ Below w.heap.size w w' := by
  obtain ⟨ao_xn, c_xn, rfl⟩ := HWxn.out.slice
  obtain ⟨ao_xd, c_xd, rfl⟩ := HWxd.out.slice
  obtain ⟨ao_yn, c_yn, rfl⟩ := HWyn.out.slice
  obtain ⟨ao_yd, c_yd, rfl⟩ := HWyd.out.slice
  obtain ⟨ao_m, c_m, rfl⟩ := HWm.out.slice
  go_enter Tryz.func8, Tryz.ntmps8
  have HF := Lib.hid (hp0 w)
  refine kS fun K hK => ?_
  refine wp_region_lit ?_
  go_wp2
  refine hK.out _ _ ?_; clear hK K
  show Code.wp _ _ _ _ _
  refine fH (((HF.out).al (b := w.heap.size) (by first | rfl | simp) (by decide)).al (b := w.heap.size + 1) (by first | rfl | simp) (by decide)) fun Wx0 HG => ?_
  clear HF; have HF := HG; clear HG
  generalize w.heap.size + 1 = gx1 at *
  refine wp_seq ?_
  have hd1 : ¬ (2 < ((kxn : Int))) := ok
  have hd2 : ¬ (2 < ((kxd : Int))) := ok
  have hd3 : 2 < ((kyn : Int)) := ok
  have lx0 := HF.out.c 0 rfl
  have lx1 := HF.out.c 1 rfl
  refine kS fun K hK => ?_
  refine sq 29 [(true, 0), (true, 1), (true, 2), (true, 3), (true, 4), (true, 5), (true, 6), (true, 7), (true, 8), (true, 9), (true, 10), (true, 11), (true, 12), (true, 13), (true, 14), (true, 15), (true, 16), (true, 17), (true, 18), (true, 19), (true, 20), (true, 21), (true, 22), (true, 23), (true, 24), (true, 25), (true, 26), (true, 27), (true, 28)] fun T hT => ?_
  iterate 19 refine tk ?_
  iterate 4 refine sk ?_
  iterate 2 refine tk ?_
  iterate 3 refine sk ?_
  refine tk ?_
  refine nlS hT HF fun vw1 HG => ?_
  clear hT T HF lx0 lx1
  go_wp2
  refine hK.out _ _ ?_; clear hK K
  show Code.wp _ _ _ _ _
  have HF := HG; clear HG
  clear hd1 hd2 hd3
  refine wp_cond_true (by rfl) ?_
  have HB := HPb HF
  refine kS fun K hK => ?_
  refine sq 2 [(true, 0), (true, 1)] fun T hT => ?_
  refine ck Tryz.call27 (fun w' hw => works7_any _ (Lib.hid (HT.out.gr (Gr.trans HB.out hw)))) ?_
  refine tk ?_
  refine nlS hT HF fun vw2 HG => ?_
  clear hT T HF HB
  go_wp2
  refine hK.out _ _ ?_; clear hK K
  show Code.wp _ _ _ _ _
  have HF := HG; clear HG
  refine wp_ret ?_
  try simp only [Exit.then, Exit.inBlock]
  exact bodyPost_ret (v := .bool true) (by simp [results, Tryz.results8, go_sem]) rfl ⟨rfl, HF.out.1⟩

set_option maxRecDepth 100000 in
set_option maxHeartbeats 16000000 in
theorem one_big4 (bbxn : Bool) (vxn : Value) (kxn : Nat) (fxn : Nat → Nat) (mxn : Nat) (ixn : Int) (vxd : Value) (kxd : Nat) (fxd : Nat → Nat) (mxd : Nat) (a : Rat) (bbyn : Bool) (vyn : Value) (kyn : Nat) (fyn : Nat → Nat) (myn : Nat) (iyn : Int) (vyd : Value) (kyd : Nat) (fyd : Nat → Nat) (myd : Nat) (c : Rat) (vm : Value) (km : Nat) (fm : Nat → Nat) (n : Nat) (t : Int) (w : World) (HWxn : Hid (Wa w vxn kxn fxn)) (HFxn : Hid (∀ i, i < kxn → fxn i < 4294967296)) (HVxn : Hid (vl fxn kxn = mxn)) (HAxn : Hid ((if bbxn then -((mxn : Nat) : Int) else ((mxn : Nat) : Int)) = ixn)) (HWxd : Hid (Wa w vxd kxd fxd)) (HFxd : Hid (∀ i, i < kxd → fxd i < 4294967296)) (HVxd : Hid (vl fxd kxd = mxd)) (HQx : Hid (mkRat ixn (mxd + 1) = a)) (HWyn : Hid (Wa w vyn kyn fyn)) (HFyn : Hid (∀ i, i < kyn → fyn i < 4294967296)) (HVyn : Hid (vl fyn kyn = myn)) (HAyn : Hid ((if bbyn then -((myn : Nat) : Int) else ((myn : Nat) : Int)) = iyn)) (HWyd : Hid (Wa w vyd kyd fyd)) (HFyd : Hid (∀ i, i < kyd → fyd i < 4294967296)) (HVyd : Hid (vl fyd kyd = myd)) (HQy : Hid (mkRat iyn (myd + 1) = c)) (HWm : Hid (Wa w vm km fm)) (HFm : Hid (∀ i, i < km → fm i < 4294967296)) (HVm : Hid (vl fm km = n)) (hkxn : kxn ≤ 2) (hkxd : kxd ≤ 2) (hkyn : kyn ≤ 2) (hkyd : 2 < kyd) (HT : Hid (Tab w)) :
    Calls Tryz.prog 8 #[.agg #[.bool bbxn, vxn, vxd], .agg #[.bool bbyn, vyn, vyd], vm, .int .i64 (t)] w fun e w' => e = .returned (.bool true) ∧ Below w.heap.size w w' := by
  obtain ⟨ao_xn, c_xn, rfl⟩ := HWxn.out.slice
  obtain ⟨ao_xd, c_xd, rfl⟩ := HWxd.out.slice
  obtain ⟨ao_yn, c_yn, rfl⟩ := HWyn.out.slice
  obtain ⟨ao_yd, c_yd, rfl⟩ := HWyd.out.slice
  obtain ⟨ao_m, c_m, rfl⟩ := HWm.out.slice
  go_enter Tryz.func8, Tryz.ntmps8
  have HF := Lib.hid (hp0 w)
  refine kS fun K hK => ?_
  refine wp_region_lit ?_
  go_wp2
  refine hK.out _ _ ?_; clear hK K
  show Code.wp _ _ _ _ _
  refine fH (((HF.out).al (b := w.heap.size) (by first | rfl | simp) (by decide)).al (b := w.heap.size + 1) (by first | rfl | simp) (by decide)) fun Wx0 HG => ?_
  clear HF; have HF := HG; clear HG
  generalize w.heap.size + 1 = gx1 at *
  refine wp_seq ?_
  have hd1 : ¬ (2 < ((kxn : Int))) := ok
  have hd2 : ¬ (2 < ((kxd : Int))) := ok
  have hd3 : ¬ (2 < ((kyn : Int))) := ok
  have hd4 : 2 < ((kyd : Int)) := ok
  have lx0 := HF.out.c 0 rfl
  have lx1 := HF.out.c 1 rfl
  refine kS fun K hK => ?_
  refine sq 29 [(true, 0), (true, 1), (true, 2), (true, 3), (true, 4), (true, 5), (true, 6), (true, 7), (true, 8), (true, 9), (true, 10), (true, 11), (true, 12), (true, 13), (true, 14), (true, 15), (true, 16), (true, 17), (true, 18), (true, 19), (true, 20), (true, 21), (true, 22), (true, 23), (true, 24), (true, 25), (true, 26), (true, 27), (true, 28)] fun T hT => ?_
  iterate 25 refine tk ?_
  iterate 3 refine sk ?_
  refine tk ?_
  refine nlS hT HF fun vw1 HG => ?_
  clear hT T HF lx0 lx1
  go_wp2
  refine hK.out _ _ ?_; clear hK K
  show Code.wp _ _ _ _ _
  have HF := HG; clear HG
  clear hd1 hd2 hd3 hd4
  refine wp_cond_true (by rfl) ?_
  have HB := HPb HF
  refine kS fun K hK => ?_
  refine sq 2 [(true, 0), (true, 1)] fun T hT => ?_
  refine ck Tryz.call27 (fun w' hw => works7_any _ (Lib.hid (HT.out.gr (Gr.trans HB.out hw)))) ?_
  refine tk ?_
  refine nlS hT HF fun vw2 HG => ?_
  clear hT T HF HB
  go_wp2
  refine hK.out _ _ ?_; clear hK K
  show Code.wp _ _ _ _ _
  have HF := HG; clear HG
  refine wp_ret ?_
  try simp only [Exit.then, Exit.inBlock]
  exact bodyPost_ret (v := .bool true) (by simp [results, Tryz.results8, go_sem]) rfl ⟨rfl, HF.out.1⟩

set_option maxRecDepth 100000 in
set_option maxHeartbeats 16000000 in
theorem one_big5 (bbxn : Bool) (vxn : Value) (kxn : Nat) (fxn : Nat → Nat) (mxn : Nat) (ixn : Int) (vxd : Value) (kxd : Nat) (fxd : Nat → Nat) (mxd : Nat) (a : Rat) (bbyn : Bool) (vyn : Value) (kyn : Nat) (fyn : Nat → Nat) (myn : Nat) (iyn : Int) (vyd : Value) (kyd : Nat) (fyd : Nat → Nat) (myd : Nat) (c : Rat) (vm : Value) (km : Nat) (fm : Nat → Nat) (n : Nat) (t : Int) (w : World) (HWxn : Hid (Wa w vxn kxn fxn)) (HFxn : Hid (∀ i, i < kxn → fxn i < 4294967296)) (HVxn : Hid (vl fxn kxn = mxn)) (HAxn : Hid ((if bbxn then -((mxn : Nat) : Int) else ((mxn : Nat) : Int)) = ixn)) (HWxd : Hid (Wa w vxd kxd fxd)) (HFxd : Hid (∀ i, i < kxd → fxd i < 4294967296)) (HVxd : Hid (vl fxd kxd = mxd)) (HQx : Hid (mkRat ixn (mxd + 1) = a)) (HWyn : Hid (Wa w vyn kyn fyn)) (HFyn : Hid (∀ i, i < kyn → fyn i < 4294967296)) (HVyn : Hid (vl fyn kyn = myn)) (HAyn : Hid ((if bbyn then -((myn : Nat) : Int) else ((myn : Nat) : Int)) = iyn)) (HWyd : Hid (Wa w vyd kyd fyd)) (HFyd : Hid (∀ i, i < kyd → fyd i < 4294967296)) (HVyd : Hid (vl fyd kyd = myd)) (HQy : Hid (mkRat iyn (myd + 1) = c)) (HWm : Hid (Wa w vm km fm)) (HFm : Hid (∀ i, i < km → fm i < 4294967296)) (HVm : Hid (vl fm km = n)) (hkxn : kxn ≤ 2) (hkxd : kxd ≤ 2) (hkyn : kyn ≤ 2) (hkyd : kyd ≤ 2) (hkm : 6 < km) (HT : Hid (Tab w)) :
    Calls Tryz.prog 8 #[.agg #[.bool bbxn, vxn, vxd], .agg #[.bool bbyn, vyn, vyd], vm, .int .i64 (t)] w fun e w' => e = .returned (.bool true) ∧ Below w.heap.size w w' := by
  obtain ⟨ao_xn, c_xn, rfl⟩ := HWxn.out.slice
  obtain ⟨ao_xd, c_xd, rfl⟩ := HWxd.out.slice
  obtain ⟨ao_yn, c_yn, rfl⟩ := HWyn.out.slice
  obtain ⟨ao_yd, c_yd, rfl⟩ := HWyd.out.slice
  obtain ⟨ao_m, c_m, rfl⟩ := HWm.out.slice
  go_enter Tryz.func8, Tryz.ntmps8
  have HF := Lib.hid (hp0 w)
  refine kS fun K hK => ?_
  refine wp_region_lit ?_
  go_wp2
  refine hK.out _ _ ?_; clear hK K
  show Code.wp _ _ _ _ _
  refine fH (((HF.out).al (b := w.heap.size) (by first | rfl | simp) (by decide)).al (b := w.heap.size + 1) (by first | rfl | simp) (by decide)) fun Wx0 HG => ?_
  clear HF; have HF := HG; clear HG
  generalize w.heap.size + 1 = gx1 at *
  refine wp_seq ?_
  have hd1 : ¬ (2 < ((kxn : Int))) := ok
  have hd2 : ¬ (2 < ((kxd : Int))) := ok
  have hd3 : ¬ (2 < ((kyn : Int))) := ok
  have hd4 : ¬ (2 < ((kyd : Int))) := ok
  have hd5 : 6 < ((km : Int)) := ok
  have lx0 := HF.out.c 0 rfl
  have lx1 := HF.out.c 1 rfl
  refine kS fun K hK => ?_
  refine sq 29 [(true, 0), (true, 1), (true, 2), (true, 3), (true, 4), (true, 5), (true, 6), (true, 7), (true, 8), (true, 9), (true, 10), (true, 11), (true, 12), (true, 13), (true, 14), (true, 15), (true, 16), (true, 17), (true, 18), (true, 19), (true, 20), (true, 21), (true, 22), (true, 23), (true, 24), (true, 25), (true, 26), (true, 27), (true, 28)] fun T hT => ?_
  iterate 29 refine tk ?_
  refine nlS hT HF fun vw1 HG => ?_
  clear hT T HF lx0 lx1
  go_wp2
  refine hK.out _ _ ?_; clear hK K
  show Code.wp _ _ _ _ _
  have HF := HG; clear HG
  clear hd1 hd2 hd3 hd4 hd5
  refine wp_cond_true (by rfl) ?_
  have HB := HPb HF
  refine kS fun K hK => ?_
  refine sq 2 [(true, 0), (true, 1)] fun T hT => ?_
  refine ck Tryz.call27 (fun w' hw => works7_any _ (Lib.hid (HT.out.gr (Gr.trans HB.out hw)))) ?_
  refine tk ?_
  refine nlS hT HF fun vw2 HG => ?_
  clear hT T HF HB
  go_wp2
  refine hK.out _ _ ?_; clear hK K
  show Code.wp _ _ _ _ _
  have HF := HG; clear HG
  refine wp_ret ?_
  try simp only [Exit.then, Exit.inBlock]
  exact bodyPost_ret (v := .bool true) (by simp [results, Tryz.results8, go_sem]) rfl ⟨rfl, HF.out.1⟩

theorem one_law (bbxn : Bool) (vxn : Value) (kxn : Nat) (fxn : Nat → Nat) (vxd : Value) (kxd : Nat) (fxd : Nat → Nat) (bbyn : Bool) (vyn : Value) (kyn : Nat) (fyn : Nat → Nat) (vyd : Value) (kyd : Nat) (fyd : Nat → Nat) (vm : Value) (km : Nat) (fm : Nat → Nat) (t : Int) (w : World) (HWxn : Hid (Wa w vxn kxn fxn)) (HFxn : Hid (∀ i, i < kxn → fxn i < 4294967296)) (HWxd : Hid (Wa w vxd kxd fxd)) (HFxd : Hid (∀ i, i < kxd → fxd i < 4294967296)) (HWyn : Hid (Wa w vyn kyn fyn)) (HFyn : Hid (∀ i, i < kyn → fyn i < 4294967296)) (HWyd : Hid (Wa w vyd kyd fyd)) (HFyd : Hid (∀ i, i < kyd → fyd i < 4294967296)) (HWm : Hid (Wa w vm km fm)) (HFm : Hid (∀ i, i < km → fm i < 4294967296)) (ht1 : -9223372036854775808 ≤ t) (ht2 : t ≤ 9223372036854775807) (HT : Hid (Tab w)) :
    Calls Tryz.prog 8 #[.agg #[.bool bbxn, vxn, vxd], .agg #[.bool bbyn, vyn, vyd], vm, .int .i64 t] w fun e w' => e = .returned (.bool true) ∧ Below w.heap.size w w' := by
  obtain ⟨ixn, HAxn⟩ : ∃ z, Hid ((if bbxn then -((vl fxn kxn : Nat) : Int) else ((vl fxn kxn : Nat) : Int)) = z) := ⟨_, Lib.hid rfl⟩
  obtain ⟨a, HQx⟩ : ∃ z, Hid (mkRat ixn (vl fxd kxd + 1) = z) := ⟨_, Lib.hid rfl⟩
  obtain ⟨iyn, HAyn⟩ : ∃ z, Hid ((if bbyn then -((vl fyn kyn : Nat) : Int) else ((vl fyn kyn : Nat) : Int)) = z) := ⟨_, Lib.hid rfl⟩
  obtain ⟨c, HQy⟩ : ∃ z, Hid (mkRat iyn (vl fyd kyd + 1) = z) := ⟨_, Lib.hid rfl⟩
  obtain ⟨n, HVm⟩ : ∃ z, Hid (vl fm km = z) := ⟨_, Lib.hid rfl⟩
  by_cases hkxn : kxn ≤ 2
  · skip
    by_cases hkxd : kxd ≤ 2
    · skip
      by_cases hkyn : kyn ≤ 2
      · skip
        by_cases hkyd : kyd ≤ 2
        · skip
          by_cases hkm : km ≤ 6
          · skip
            obtain ⟨z1, b1, hb1⟩ := bk_ex t n
            exact one_main bbxn vxn kxn fxn _ ixn vxd kxd fxd _ a bbyn vyn kyn fyn _ iyn vyd kyd fyd _ c vm km fm n t _ _ z1 _ b1 w HWxn HFxn (Lib.hid rfl) HAxn HWxd HFxd (Lib.hid rfl) HQx HWyn HFyn (Lib.hid rfl) HAyn HWyd HFyd (Lib.hid rfl) HQy HWm HFm HVm hkxn hkxd hkyn hkyd hkm ht1 ht2 (Lib.hid hb1) (Lib.hid rfl) (Lib.hid (bk_add hb1)) (Lib.hid rfl) (Lib.hid rfl) (Lib.hid (bk_neg hb1)) HT
          · exact one_big5 bbxn vxn kxn fxn _ ixn vxd kxd fxd _ a bbyn vyn kyn fyn _ iyn vyd kyd fyd _ c vm km fm n t w HWxn HFxn (Lib.hid rfl) HAxn HWxd HFxd (Lib.hid rfl) HQx HWyn HFyn (Lib.hid rfl) HAyn HWyd HFyd (Lib.hid rfl) HQy HWm HFm HVm  hkxn hkxd hkyn hkyd (by omega) HT
        · exact one_big4 bbxn vxn kxn fxn _ ixn vxd kxd fxd _ a bbyn vyn kyn fyn _ iyn vyd kyd fyd _ c vm km fm n t w HWxn HFxn (Lib.hid rfl) HAxn HWxd HFxd (Lib.hid rfl) HQx HWyn HFyn (Lib.hid rfl) HAyn HWyd HFyd (Lib.hid rfl) HQy HWm HFm HVm  hkxn hkxd hkyn (by omega) HT
      · exact one_big3 bbxn vxn kxn fxn _ ixn vxd kxd fxd _ a bbyn vyn kyn fyn _ iyn vyd kyd fyd _ c vm km fm n t w HWxn HFxn (Lib.hid rfl) HAxn HWxd HFxd (Lib.hid rfl) HQx HWyn HFyn (Lib.hid rfl) HAyn HWyd HFyd (Lib.hid rfl) HQy HWm HFm HVm  hkxn hkxd (by omega) HT
    · exact one_big2 bbxn vxn kxn fxn _ ixn vxd kxd fxd _ a bbyn vyn kyn fyn _ iyn vyd kyd fyd _ c vm km fm n t w HWxn HFxn (Lib.hid rfl) HAxn HWxd HFxd (Lib.hid rfl) HQx HWyn HFyn (Lib.hid rfl) HAyn HWyd HFyd (Lib.hid rfl) HQy HWm HFm HVm  hkxn (by omega) HT
  · exact one_big1 bbxn vxn kxn fxn _ ixn vxd kxd fxd _ a bbyn vyn kyn fyn _ iyn vyd kyd fyd _ c vm km fm n t w HWxn HFxn (Lib.hid rfl) HAxn HWxd HFxd (Lib.hid rfl) HQx HWyn HFyn (Lib.hid rfl) HAyn HWyd HFyd (Lib.hid rfl) HQy HWm HFm HVm   (by omega) HT

end Go.Proofs.YtobojnodohjiaaaGreatDoor
