
/- IntsSmall: a way through the law. -/
import Derived.Test.YtpcfncbcpknobaaGreatDoorSmallZ0
import Derived.Test.YtpcfncbcpknobaaGreatDoorWorksZ
namespace Go.Proofs.YtpcfncbcpknobaaGreatDoor
open Go.RowKit
set_option linter.unusedSimpArgs false
set_option linter.unusedVariables false
attribute [local go_sem ↓] Go.wp_at_zero Go.wp_at_succ
attribute [local go_sem ↓] eq_nat eq_nat_zero eq_int
set_option maxRecDepth 100000 in
set_option maxHeartbeats 16000000 in
theorem smz_in  (m n u pr s1 s2 x y c0 : Int) (o1 o2 qe ql : Bool) (q r : Int) (y2 : Int) (w : World)  (HM1 : Hid (-9223372036854775808 ≤ m)) (HM2 : Hid (m ≤ 9223372036854775807)) (HN1 : Hid (-9223372036854775808 ≤ n)) (HN2 : Hid (n ≤ 9223372036854775807)) (HU : Hid (m + n = u)) (HP : Hid (m * n = pr)) (HS1 : Hid ((s1 = u ∧ o1 = true ∧ -9223372036854775808 ≤ u ∧ u ≤ 9223372036854775807) ∨ (s1 = 0 ∧ o1 = false ∧ (u < -9223372036854775808 ∨ 9223372036854775807 < u)))) (HS2 : Hid ((s2 = pr ∧ o2 = true ∧ -9223372036854775808 ≤ pr ∧ pr ≤ 9223372036854775807) ∨ (s2 = 0 ∧ o2 = false ∧ (pr < -9223372036854775808 ∨ 9223372036854775807 < pr)))) (HXW : Hid (IntKind.i64.wrap (m + n) = x)) (HX : Hid ((x = u ∧ -9223372036854775808 ≤ u ∧ u ≤ 9223372036854775807) ∨ (x = u - 18446744073709551616 ∧ 9223372036854775807 < u) ∨ (x = u + 18446744073709551616 ∧ u < -9223372036854775808))) (HYW : Hid (IntKind.i64.wrap (m * n) = y)) (HY : Hid (y = pr ∨ pr < -9223372036854775808 ∨ 9223372036854775807 < pr)) (HSM : Hid (m ≤ -2147483648 ∨ 2147483648 ≤ m ∨ n ≤ -2147483648 ∨ 2147483648 ≤ n ∨ (-9223372036854775808 ≤ pr ∧ pr ≤ 9223372036854775807))) (HQE : Hid (decide (m = n) = qe)) (HQL : Hid (decide (m < n) = ql)) (HC0 : Hid (sgI (m - n) = c0)) (HNN : Hid (n ≠ 0)) (HQ : Hid (m / n = q)) (HR : Hid (m % n = r)) (HR0 : Hid (0 ≤ r)) (HRI : Hid (In64 r)) (HQI : Hid (In64 q)) (HW2 : Hid (IntKind.i64.wrap (q * n) = y2)) (HW3 : Hid (IntKind.i64.wrap (y2 + r) = m)) (HT : Hid (Tab w)) :
    Calls Tryz.prog 14 #[.int .i64 (m), .int .i64 (n)] w fun e w' => e = .returned (.bool true) ∧ Below w.heap.size w w' := by
  have lm := HM1.out
  have um := HM2.out
  have ln := HN1.out
  have un := HN2.out
  go_enter Tryz.func14, Tryz.ntmps14
  have HF := Lib.hid (hp0 w)
  refine kS fun K hK => ?_
  refine wp_region_lit ?_
  go_wp2
  refine hK.out _ _ ?_; clear hK K
  show Code.wp _ _ _ _ _
  refine fH (HF.out) fun Wx0 HG => ?_
  clear HF; have HF := HG; clear HG
  have su1 : wl (Int.natAbs (m)) ≤ 2 := wl_i64 om om
  have su2 : wl (Int.natAbs (n)) ≤ 2 := wl_i64 om om
  refine kS fun K hK => ?_
  refine sq 4 [(true, 0), (true, 1), (true, 2), (true, 3)] fun T hT => ?_
  refine tk ?_
  refine ck Tryz.call93 (fun w' hw => iof_any (m) _ om om) ?_
  refine tk ?_
  refine ck Tryz.call93 (fun w' hw => iof_any (n) _ om om) ?_
  refine nlS hT HF fun vw1 HG => ?_
  clear hT T HF
  go_wp2
  refine hK.out _ _ ?_; clear hK K
  show Code.wp _ _ _ _ _
  refine fH (((HG.out).al (b := vw1.heap.size) (by first | rfl | simp) (by decide)).al (b := vw1.heap.size + 1) (by first | rfl | simp) (by decide)) fun Wx1 HF => ?_
  clear HG
  generalize vw1.heap.size + 1 = gx2 at *
  generalize vw1.heap.size = gx1 at *
  have lx1 := HF.out.c 0 rfl
  refine kS fun K hK => ?_
  refine sq 7 [(true, 0), (true, 1), (true, 2), (true, 3), (true, 4), (true, 5), (true, 6)] fun T hT => ?_
  refine tk ?_
  refine ck Tryz.call20 (fun w' hw => i64_in (m) _ (by exact ⟨HM1.out, HM2.out⟩)) ?_
  iterate 5 refine tk ?_
  refine nlS hT HF fun vw2 HG => ?_
  clear hT T HF lx1
  go_wp2
  refine hK.out _ _ ?_; clear hK K
  show Code.wp _ _ _ _ _
  have HF := HG; clear HG
  refine wp_seq ?_
  have hq1 : decide (m = n) = qe := HQE.out
  have hq2 : ((m : Int) == n) = qe := by have e9 := HQE.out; rw [← e9]; rfl
  have hq3 : decide (c0 < 0) = ql := by rw [← HC0.out]; simp only [sgI_neg]; have e9 := HQL.out; rw [← e9]; congr 1; simp; omega
  have hq4 : decide (m < n) = ql := HQL.out
  have lx1 := HF.out.c 0 rfl
  have lx2 := HF.out.c 1 rfl
  refine kS fun K hK => ?_
  refine sq 26 [(true, 0), (true, 1), (true, 2), (true, 3), (true, 4), (true, 5), (true, 6), (true, 7), (true, 8), (true, 9), (true, 10), (true, 11), (true, 12), (true, 13), (true, 14), (true, 15), (true, 16), (true, 17), (true, 18), (true, 19), (true, 20), (true, 21), (true, 22), (true, 23), (true, 24), (true, 25)] fun T hT => ?_
  iterate 19 refine tk ?_
  refine ck Tryz.call101 (fun w' hw => zicmp (m) (n) (c0) _ HC0.out om om) ?_
  iterate 6 refine tk ?_
  refine nlS hT HF fun vw3 HG => ?_
  clear hT T HF lx1 lx2
  go_wp2
  refine hK.out _ _ ?_; clear hK K
  show Code.wp _ _ _ _ _
  have HF := HG; clear HG
  clear hq1 hq2 hq3 hq4
  refine wp_cond_false (by rfl) ?_
  refine wp_skip ?_
  show Code.wp _ _ _ _ _
  have HZ3 : Hid ((m) + (n) = u) := Lib.hid (HU.out)
  have su3 : wl (Int.natAbs (u)) ≤ 3 := by have e := HZ3.out; first | omega | (rw [← e]; have := wl_iadd (m) (n); omega)
  have lx1 := HF.out.c 0 rfl
  have lx2 := HF.out.c 1 rfl
  refine kS fun K hK => ?_
  refine sq 9 [(true, 0), (true, 1), (true, 2), (true, 3), (true, 4), (true, 5), (true, 6), (true, 7), (true, 8)] fun T hT => ?_
  iterate 2 refine tk ?_
  refine ck Tryz.call102 (fun w' hw => ziadd (m) (n) (u) _ HZ3.out om om) ?_
  refine ck Tryz.call20 (fun w' hw => i64_sym (u) s1 o1 _ HS1.out) ?_
  iterate 5 refine tk ?_
  refine nlS hT HF fun vw4 HG => ?_
  clear hT T HF lx1 lx2
  go_wp2
  refine hK.out _ _ ?_; clear hK K
  show Code.wp _ _ _ _ _
  have HF := HG; clear HG
  have HZ4 : Hid ((m) * (n) = pr) := Lib.hid (HP.out)
  have su4 : wl (Int.natAbs (pr)) ≤ 4 := by have e := HZ4.out; first | omega | (rw [← e]; have := wl_imul (m) (n); omega)
  have lx1 := HF.out.c 0 rfl
  have lx2 := HF.out.c 1 rfl
  refine kS fun K hK => ?_
  refine sq 9 [(true, 0), (true, 1), (true, 2), (true, 3), (true, 4), (true, 5), (true, 6), (true, 7), (true, 8)] fun T hT => ?_
  iterate 2 refine tk ?_
  refine ck Tryz.call94 (fun w' hw => zimul (m) (n) (pr) _ HZ4.out om om) ?_
  refine ck Tryz.call20 (fun w' hw => i64_sym (pr) s2 o2 _ HS2.out) ?_
  iterate 5 refine tk ?_
  refine nlS hT HF fun vw5 HG => ?_
  clear hT T HF lx1 lx2
  go_wp2
  refine hK.out _ _ ?_; clear hK K
  show Code.wp _ _ _ _ _
  have HF := HG; clear HG
  refine wp_seq ?_
  refine wp_seq_k fun K hK => ?_
  replace hK := Lib.hid hK
  suffices HJ : Hid (∀ (b9 : Bool) (g2 g3 g4 g7 g8 g9 g10 g20 g21 g22 g23 g24 g25 g26 g27 g28 g29 g30 g31 g32 g33 g34 g35 g36 g37 g38 g39 g40 g41 g42 g43 g44 g45 g46 g47 g48 g49 g50 g51 g52 g53 g54 g55 g56 g57 g58 g59 g60 g61 g62 g63 g64 g65 g66 g67 g68 g69 g70 g71 g72 g73 g74 g75 g76 g77 g78 g79 g80 g81 g82 g83 g84 g85 g86 g87 g88 g89 g90 g91 g92 g93 g94 g95 g96 g97 g98 g99 g100 g101 g102 g103 g104 g105 g106 g107 g108 g109 g110 g111 g112 g113 : Value), b9 = false → K { tmps := #[.int .i64 (m), .int .i64 (n), g2, g3, g4, .pointer (some ⟨gx1, 0, none⟩), .pointer (some ⟨gx2, 0, none⟩), g7, g8, g9, g10, .int .i64 (s2), .bool (o2), undef, undef, undef, undef, undef, undef, undef, g20, g21, g22, g23, g24, g25, g26, g27, g28, g29, g30, g31, g32, g33, g34, g35, g36, g37, g38, g39, g40, g41, g42, g43, g44, g45, g46, g47, g48, g49, g50, g51, g52, g53, g54, g55, g56, g57, g58, g59, g60, g61, g62, g63, g64, g65, g66, g67, g68, g69, g70, g71, g72, g73, g74, g75, g76, g77, g78, g79, g80, g81, g82, g83, g84, g85, g86, g87, g88, g89, g90, g91, g92, g93, g94, g95, g96, g97, g98, g99, g100, g101, g102, g103, g104, g105, g106, g107, g108, g109, g110, g111, g112, g113, .bool b9, undef, undef, undef, undef, undef, undef, undef, undef, undef, undef, undef, undef, undef, undef, undef, undef, undef, undef, undef, undef, undef, undef, undef, undef, undef, undef, undef, undef, undef, undef, undef, undef, undef, undef, undef, undef, undef, undef, undef, undef, undef, undef, undef, undef, undef, undef, undef, undef, undef, undef, undef, undef, undef, undef, undef, undef, undef, undef, undef, undef, undef, undef, undef, undef, undef, undef, undef, undef, undef, undef, undef, undef, undef, undef, undef, undef, undef, undef, undef, undef, undef, undef, undef, undef, undef, undef, undef, undef, undef, undef, undef, undef, undef, undef, undef], defers := [] } vw5) by
    have hwr : IntKind.i64.wrap (m + n) = x := HXW.out
    refine wp_region_lit ?_
    go_wp2
    all_goals exact HJ.out _ _ _ _ _ _ _ _ _ _ _ _ _ _ _ _ _ _ _ _ _ _ _ _ _ _ _ _ _ _ _ _ _ _ _ _ _ _ _ _ _ _ _ _ _ _ _ _ _ _ _ _ _ _ _ _ _ _ _ _ _ _ _ _ _ _ _ _ _ _ _ _ _ _ _ _ _ _ _ _ _ _ _ _ _ _ _ _ _ _ _ _ _ _ _ _ _ _ _ _ _ _ (by have hx := HX.out; have hv := HS1.out; have h1 := HM1.out; have h2 := HM2.out; have h3 := HN1.out; have h4 := HN2.out; have hu := HU.out; cases o1 <;> first | rfl | (exfalso; simp at hv; done) | (exfalso; simp at hv; omega) | (simp at hv ⊢ <;> omega) | (simp at * <;> omega))
  refine Lib.hid ?_
  intro b9 g2 g3 g4 g7 g8 g9 g10 g20 g21 g22 g23 g24 g25 g26 g27 g28 g29 g30 g31 g32 g33 g34 g35 g36 g37 g38 g39 g40 g41 g42 g43 g44 g45 g46 g47 g48 g49 g50 g51 g52 g53 g54 g55 g56 g57 g58 g59 g60 g61 g62 g63 g64 g65 g66 g67 g68 g69 g70 g71 g72 g73 g74 g75 g76 g77 g78 g79 g80 g81 g82 g83 g84 g85 g86 g87 g88 g89 g90 g91 g92 g93 g94 g95 g96 g97 g98 g99 g100 g101 g102 g103 g104 g105 g106 g107 g108 g109 g110 g111 g112 g113 hb9
  subst hb9
  refine hK.out _ _ ?_; clear hK K
  show Code.wp _ _ _ _ _
  refine wp_cond_false (by rfl) ?_
  refine wp_skip ?_
  show Code.wp _ _ _ _ _
  refine wp_seq ?_
  refine wp_seq_k fun K hK => ?_
  replace hK := Lib.hid hK
  suffices HJ : Hid (∀ (b9 : Bool) (g2 g3 g4 g7 g8 g9 g10 g11 g12 g20 g21 g22 g23 g24 g25 g26 g27 g28 g29 g30 g31 g32 g33 g34 g35 g36 g37 g38 g39 g40 g41 g42 g43 g44 g45 g46 g47 g48 g49 g50 g51 g52 g53 g54 g55 g56 g57 g58 g59 g60 g61 g62 g63 g64 g65 g66 g67 g68 g69 g70 g71 g72 g73 g74 g75 g76 g77 g78 g79 g80 g81 g82 g83 g84 g85 g86 g87 g88 g89 g90 g91 g92 g93 g94 g95 g96 g97 g98 g99 g100 g101 g102 g103 g104 g105 g106 g107 g108 g109 g110 g111 g112 g113 g114 g115 g116 g117 g118 g119 g120 g121 g122 g123 g124 g125 g126 g127 g128 g129 g130 g131 g132 g133 g134 g135 g136 g137 g138 g139 g140 g141 g142 g143 g144 g145 g146 g147 g148 g149 : Value), b9 = false → K { tmps := #[.int .i64 (m), .int .i64 (n), g2, g3, g4, .pointer (some ⟨gx1, 0, none⟩), .pointer (some ⟨gx2, 0, none⟩), g7, g8, g9, g10, g11, g12, undef, undef, undef, undef, undef, undef, undef, g20, g21, g22, g23, g24, g25, g26, g27, g28, g29, g30, g31, g32, g33, g34, g35, g36, g37, g38, g39, g40, g41, g42, g43, g44, g45, g46, g47, g48, g49, g50, g51, g52, g53, g54, g55, g56, g57, g58, g59, g60, g61, g62, g63, g64, g65, g66, g67, g68, g69, g70, g71, g72, g73, g74, g75, g76, g77, g78, g79, g80, g81, g82, g83, g84, g85, g86, g87, g88, g89, g90, g91, g92, g93, g94, g95, g96, g97, g98, g99, g100, g101, g102, g103, g104, g105, g106, g107, g108, g109, g110, g111, g112, g113, g114, g115, g116, g117, g118, g119, g120, g121, g122, g123, g124, g125, g126, g127, g128, g129, g130, g131, g132, g133, g134, g135, g136, g137, g138, g139, g140, g141, g142, g143, g144, g145, g146, g147, g148, g149, .bool b9, undef, undef, undef, undef, undef, undef, undef, undef, undef, undef, undef, undef, undef, undef, undef, undef, undef, undef, undef, undef, undef, undef, undef, undef, undef, undef, undef, undef, undef, undef, undef, undef, undef, undef, undef, undef, undef, undef, undef, undef, undef, undef, undef, undef, undef, undef, undef, undef, undef, undef, undef, undef, undef, undef, undef, undef, undef, undef, undef], defers := [] } vw5) by
    have hwr : IntKind.i64.wrap (m * n) = y := HYW.out
    refine wp_region_lit ?_
    go_wp2
    all_goals exact HJ.out _ _ _ _ _ _ _ _ _ _ _ _ _ _ _ _ _ _ _ _ _ _ _ _ _ _ _ _ _ _ _ _ _ _ _ _ _ _ _ _ _ _ _ _ _ _ _ _ _ _ _ _ _ _ _ _ _ _ _ _ _ _ _ _ _ _ _ _ _ _ _ _ _ _ _ _ _ _ _ _ _ _ _ _ _ _ _ _ _ _ _ _ _ _ _ _ _ _ _ _ _ _ _ _ _ _ _ _ _ _ _ _ _ _ _ _ _ _ _ _ _ _ _ _ _ _ _ _ _ _ _ _ _ _ _ _ _ _ _ _ (by have hx := HY.out; have hv := HS2.out; have hs := HSM.out; cases o2 <;> first | rfl | (exfalso; simp at hv; done) | (exfalso; simp at hv; omega) | (simp at hv ⊢ <;> omega) | (simp at * <;> omega))
  refine Lib.hid ?_
  intro b9 g2 g3 g4 g7 g8 g9 g10 g11 g12 g20 g21 g22 g23 g24 g25 g26 g27 g28 g29 g30 g31 g32 g33 g34 g35 g36 g37 g38 g39 g40 g41 g42 g43 g44 g45 g46 g47 g48 g49 g50 g51 g52 g53 g54 g55 g56 g57 g58 g59 g60 g61 g62 g63 g64 g65 g66 g67 g68 g69 g70 g71 g72 g73 g74 g75 g76 g77 g78 g79 g80 g81 g82 g83 g84 g85 g86 g87 g88 g89 g90 g91 g92 g93 g94 g95 g96 g97 g98 g99 g100 g101 g102 g103 g104 g105 g106 g107 g108 g109 g110 g111 g112 g113 g114 g115 g116 g117 g118 g119 g120 g121 g122 g123 g124 g125 g126 g127 g128 g129 g130 g131 g132 g133 g134 g135 g136 g137 g138 g139 g140 g141 g142 g143 g144 g145 g146 g147 g148 g149 hb9
  subst hb9
  refine hK.out _ _ ?_; clear hK K
  show Code.wp _ _ _ _ _
  refine wp_cond_false (by rfl) ?_
  refine wp_skip ?_
  show Code.wp _ _ _ _ _
  have HZ5 : Hid ((m) / (n) = q) := Lib.hid (HQ.out)
  have su5 : wl (Int.natAbs (q)) ≤ 3 := by have e := HZ5.out; first | omega | (rw [← e]; have := wl_idiv (m) (n); omega)
  have HZ6 : Hid ((m) % (n) = r) := Lib.hid (HR.out)
  have su6 : wl (Int.natAbs (r)) ≤ 2 := by have e := HZ6.out; first | omega | (rw [← e]; have := wl_imod (m) (n) (by have hn9 := HNN.out; exact ok); omega)
  have lx1 := HF.out.c 0 rfl
  have lx2 := HF.out.c 1 rfl
  refine kS fun K hK => ?_
  refine sq 7 [(true, 0), (true, 1), (true, 2), (true, 3), (true, 4), (true, 5), (true, 6)] fun T hT => ?_
  iterate 2 refine tk ?_
  refine ck Tryz.call103 (fun w' hw => zidiv (m) (n) (q) (r) _ HZ5.out HZ6.out (by have hn9 := HNN.out; exact ok) om om) ?_
  iterate 4 refine tk ?_
  refine nlS hT HF fun vw6 HG => ?_
  clear hT T HF lx1 lx2
  go_wp2
  refine hK.out _ _ ?_; clear hK K
  show Code.wp _ _ _ _ _
  refine fH (((((HG.out).al (b := vw6.heap.size) (by first | rfl | simp) (by decide)).al (b := vw6.heap.size + 1) (by first | rfl | simp) (by decide)).er 1).er 0) fun Wx11 HF => ?_
  clear HG
  generalize vw6.heap.size + 1 = gx4 at *
  generalize vw6.heap.size = gx3 at *
  refine wp_seq ?_
  have hd1 : ((n) == (0)) = false := by have : ¬ (n = 0) := (by have hn9 := HNN.out; exact ok); simpa using this
  refine kS fun K hK => ?_
  refine sq 2 [(true, 0), (true, 1)] fun T hT => ?_
  iterate 2 refine tk ?_
  refine nlS hT HF fun vw7 HG => ?_
  clear hT T HF
  go_wp2
  refine hK.out _ _ ?_; clear hK K
  show Code.wp _ _ _ _ _
  have HF := HG; clear HG
  clear hd1
  refine wp_cond_false (by rfl) ?_
  refine wp_skip ?_
  show Code.wp _ _ _ _ _
  have lx3 := HF.out.c 0 rfl
  refine kS fun K hK => ?_
  refine sq 7 [(true, 0), (true, 1), (true, 2), (true, 3), (true, 4), (true, 5), (true, 6)] fun T hT => ?_
  refine tk ?_
  refine ck Tryz.call20 (fun w' hw => i64_in (q) _ (by exact HQI.out)) ?_
  iterate 5 refine tk ?_
  refine nlS hT HF fun vw8 HG => ?_
  clear hT T HF lx3
  go_wp2
  refine hK.out _ _ ?_; clear hK K
  show Code.wp _ _ _ _ _
  refine fH ((HG.out).er 0) fun Wx14 HF => ?_
  clear HG
  have lx4 := HF.out.c 0 rfl
  refine kS fun K hK => ?_
  refine sq 7 [(true, 0), (true, 1), (true, 2), (true, 3), (true, 4), (true, 5), (true, 6)] fun T hT => ?_
  refine tk ?_
  refine ck Tryz.call20 (fun w' hw => i64_in (r) _ (by exact HRI.out)) ?_
  iterate 5 refine tk ?_
  refine nlS hT HF fun vw9 HG => ?_
  clear hT T HF lx4
  go_wp2
  refine hK.out _ _ ?_; clear hK K
  show Code.wp _ _ _ _ _
  refine fH ((HG.out).er 0) fun Wx15 HF => ?_
  clear HG
  have HB := HPb HF
  have hd2 : 0 ≤ r := by exact HR0.out
  have hw2 : IntKind.i64.wrap (q * n) = y2 := HW2.out
  have hw3 : IntKind.i64.wrap (y2 + r) = m := HW3.out
  refine kS fun K hK => ?_
  refine sq 36 [(true, 0), (true, 1), (true, 2), (true, 3), (true, 4), (true, 5), (true, 6), (true, 7), (true, 8), (true, 9), (true, 10), (true, 11), (true, 12), (true, 13), (true, 14), (true, 15), (true, 16), (true, 17), (true, 18), (true, 19), (true, 20), (true, 21), (true, 22), (true, 23), (true, 24), (true, 25), (true, 26), (true, 27), (true, 28), (true, 29), (true, 30), (true, 31), (true, 32), (true, 33), (true, 34), (true, 35)] fun T hT => ?_
  iterate 11 refine tk ?_
  iterate 6 refine sk ?_
  iterate 16 refine tk ?_
  refine ck Tryz.call23 (fun w' hw => worksz_any _ (Lib.hid (HT.out.gr (Gr.trans HB.out hw)))) ?_
  iterate 2 refine tk ?_
  refine nlS hT HF fun vw10 HG => ?_
  clear hT T HF HB
  go_wp2
  refine hK.out _ _ ?_; clear hK K
  show Code.wp _ _ _ _ _
  have HF := HG; clear HG
  clear hd2 hw2 hw3
  refine wp_ret ?_
  try simp only [Exit.then, Exit.inBlock]
  exact bodyPost_ret (v := .bool true) (by simp [results, Tryz.results14, go_sem]) rfl ⟨rfl, HF.out.1⟩

end Go.Proofs.YtpcfncbcpknobaaGreatDoor
