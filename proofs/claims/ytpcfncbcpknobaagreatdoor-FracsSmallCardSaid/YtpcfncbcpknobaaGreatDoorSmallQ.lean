
/- FracsSmall: the law's walk. -/
import Derived.Test.YtpcfncbcpknobaaGreatDoorWorksQ
import Derived.Test.YtpcfncbcpknobaaGreatDoorI64
namespace Go.Proofs.YtpcfncbcpknobaaGreatDoor
open Go.RowKit
set_option linter.unusedSimpArgs false
set_option linter.unusedVariables false
attribute [local go_sem ↓] Go.wp_at_zero Go.wp_at_succ
attribute [local go_sem ↓] eq_nat eq_nat_zero eq_int eq_frac eq_frac_zero
attribute [local go_sem] Instr.field asAgg
set_option maxRecDepth 100000 in
set_option maxHeartbeats 8000000 in
theorem smallq_zero (n : Int) (w : World) (h1 : -9223372036854775808 ≤ n) (h2 : n ≤ 9223372036854775807) (HT : Hid (Tab w)) :
    Calls Tryz.prog 13 #[.int .i64 (n), .int .i64 0] w fun e w' => e = .returned (.bool true) ∧ Below w.heap.size w w' := by
  go_enter Tryz.func13, Tryz.ntmps13
  have HF := Lib.hid (hp0 w)
  refine kS fun K hK => ?_
  refine wp_region_lit ?_
  go_wp2
  refine hK.out _ _ ?_; clear hK K
  show Code.wp _ _ _ _ _
  refine fH (HF.out) fun Wx0 HG => ?_
  clear HF; have HF := HG; clear HG
  refine kS fun K hK => ?_
  refine sq 6 [(true, 0), (true, 1), (true, 2), (true, 3), (true, 4), (true, 5)] fun T hT => ?_
  iterate 2 refine tk ?_
  refine ck Tryz.call100 (fun w' hw => fof_none (n) (0) _ (ok) om om) ?_
  iterate 3 refine tk ?_
  refine nlS hT HF fun vw1 HG => ?_
  clear hT T HF
  go_wp2
  refine hK.out _ _ ?_; clear hK K
  show Code.wp _ _ _ _ _
  refine fH ((HG.out).al (b := vw1.heap.size) (by first | rfl | simp) (by decide)) fun Wx1 HF => ?_
  clear HG
  generalize vw1.heap.size = gx1 at *
  refine wp_seq ?_
  refine kS fun K hK => ?_
  refine sq 2 [(true, 0), (true, 1)] fun T hT => ?_
  iterate 2 refine tk ?_
  refine nlS hT HF fun vw2 HG => ?_
  clear hT T HF
  go_wp2
  refine hK.out _ _ ?_; clear hK K
  show Code.wp _ _ _ _ _
  have HF := HG; clear HG
  refine wp_cond_true (by rfl) ?_
  have HB := HPb HF
  have lx1 := HF.out.c 0 rfl
  refine kS fun K hK => ?_
  refine sq 11 [(true, 0), (true, 1), (true, 2), (true, 3), (true, 4), (true, 5), (true, 6), (true, 7), (true, 8), (true, 9), (true, 10)] fun T hT => ?_
  iterate 8 refine tk ?_
  refine ck Tryz.call49 (fun w' hw => worksq_any _ (Lib.hid (HT.out.gr (Gr.trans HB.out hw)))) ?_
  iterate 2 refine tk ?_
  refine nlS hT HF fun vw3 HG => ?_
  clear hT T HF lx1 HB
  go_wp2
  refine hK.out _ _ ?_; clear hK K
  show Code.wp _ _ _ _ _
  have HF := HG; clear HG
  refine wp_ret ?_
  try simp only [Exit.then, Exit.inBlock]
  exact bodyPost_ret (v := .bool true) (by simp [results, Tryz.results13, go_sem]) rfl ⟨rfl, HF.out.1⟩

set_option maxRecDepth 100000 in
set_option maxHeartbeats 8000000 in
theorem smallq_ne (n d : Int) (q r : Rat) (w : World) (h1 : -9223372036854775808 ≤ n) (h2 : n ≤ 9223372036854775807) (h3 : -9223372036854775808 ≤ d) (h4 : d ≤ 9223372036854775807) (hd : d ≠ 0) (HN : Hid (((n : Int) : Rat) = q)) (HD : Hid (((d : Int) : Rat) = r)) (hr0 : r ≠ 0) (HT : Hid (Tab w)) :
    Calls Tryz.prog 13 #[.int .i64 (n), .int .i64 (d)] w fun e w' => e = .returned (.bool true) ∧ Below w.heap.size w w' := by
  go_enter Tryz.func13, Tryz.ntmps13
  have HF := Lib.hid (hp0 w)
  refine kS fun K hK => ?_
  refine wp_region_lit ?_
  go_wp2
  refine hK.out _ _ ?_; clear hK K
  show Code.wp _ _ _ _ _
  refine fH (HF.out) fun Wx0 HG => ?_
  clear HF; have HF := HG; clear HG
  obtain ⟨u1, HZ1⟩ : ∃ z, Hid (((n : Int) : Rat) / ((d : Int) : Rat) = z) := ⟨_, Lib.hid rfl⟩
  have su1 : sz (u1) ≤ 4 := by rw [← HZ1.out]; exact sz_quot (n) (d) om om om om
  refine kS fun K hK => ?_
  refine sq 6 [(true, 0), (true, 1), (true, 2), (true, 3), (true, 4), (true, 5)] fun T hT => ?_
  iterate 2 refine tk ?_
  refine ck Tryz.call100 (fun w' hw => fof_any (n) (d) (u1) _ HZ1.out (by first | decide | omega) om om om om) ?_
  iterate 3 refine tk ?_
  refine nlS hT HF fun vw1 HG => ?_
  clear hT T HF
  go_wp2
  refine hK.out _ _ ?_; clear hK K
  show Code.wp _ _ _ _ _
  refine fH ((HG.out).al (b := vw1.heap.size) (by first | rfl | simp) (by decide)) fun Wx1 HF => ?_
  clear HG
  generalize vw1.heap.size = gx1 at *
  refine wp_seq ?_
  have hd1 : ((d) == (0)) = false := by have : ¬ (d = 0) := (by first | exact ok | assumption | exact HN.out | exact HD.out | (rw [← HN.out]; rfl) | (simp only [← HZ1.out] <;> first | exact ok | assumption | exact HN.out | exact HD.out | (rw [← HN.out]; rfl))); simpa using this
  refine kS fun K hK => ?_
  refine sq 2 [(true, 0), (true, 1)] fun T hT => ?_
  iterate 2 refine tk ?_
  refine nlS hT HF fun vw2 HG => ?_
  clear hT T HF
  go_wp2
  refine hK.out _ _ ?_; clear hK K
  show Code.wp _ _ _ _ _
  have HF := HG; clear HG
  clear hd1
  refine wp_cond_false (by rfl) ?_
  refine wp_skip ?_
  show Code.wp _ _ _ _ _
  have HZ2 : Hid (((n : Int) : Rat) = q) := Lib.hid (by first | exact ok | assumption | exact HN.out | exact HD.out | (rw [← HN.out]; rfl) | (simp only [← HZ1.out] <;> first | exact ok | assumption | exact HN.out | exact HD.out | (rw [← HN.out]; rfl)))
  have su2 : sz (q) ≤ 2 := by have e := HZ2.out; first | omega | (rw [← e]; exact sz_int64 om om)
  have HZ3 : Hid (((d : Int) : Rat) = r) := Lib.hid (by first | exact ok | assumption | exact HN.out | exact HD.out | (rw [← HN.out]; rfl) | (simp only [← HZ1.out] <;> first | exact ok | assumption | exact HN.out | exact HD.out | (rw [← HN.out]; rfl)))
  have su3 : sz (r) ≤ 2 := by have e := HZ3.out; first | omega | (rw [← e]; exact sz_int64 om om)
  have HZ4 : Hid ((q) / (r) = u1) := Lib.hid (by rw [← HZ1.out, HN.out, HD.out])
  have su4 : sz (u1) ≤ 4 := by have e := HZ4.out; first | omega | (rw [← e]; have := sz_div (q) (r); omega)
  refine kS fun K hK => ?_
  refine sq 8 [(true, 0), (true, 1), (true, 2), (true, 3), (true, 4), (true, 5), (true, 6), (true, 7)] fun T hT => ?_
  refine tk ?_
  refine ck Tryz.call66 (fun w' hw => fint_any (n) (q) _ HZ2.out om om) ?_
  refine tk ?_
  refine ck Tryz.call66 (fun w' hw => fint_any (d) (r) _ HZ3.out om om) ?_
  refine ck Tryz.call75 (fun w' hw => fdiv_any (q) (r) (u1) _ HZ4.out (by first | exact ok | assumption | exact HN.out | exact HD.out | (rw [← HN.out]; rfl) | (simp only [← HZ1.out] <;> first | exact ok | assumption | exact HN.out | exact HD.out | (rw [← HN.out]; rfl))) om om) ?_
  iterate 3 refine tk ?_
  refine nlS hT HF fun vw3 HG => ?_
  clear hT T HF
  go_wp2
  refine hK.out _ _ ?_; clear hK K
  show Code.wp _ _ _ _ _
  refine fH ((HG.out).al (b := vw3.heap.size) (by first | rfl | simp) (by decide)) fun Wx4 HF => ?_
  clear HG
  generalize vw3.heap.size = gx2 at *
  have HZ5 : Hid (((n : Int) : Rat) = q) := Lib.hid (by first | exact ok | assumption | exact HN.out | exact HD.out | (rw [← HN.out]; rfl) | (simp only [← HZ1.out] <;> first | exact ok | assumption | exact HN.out | exact HD.out | (rw [← HN.out]; rfl)))
  have su5 : sz (q) ≤ 2 := by have e := HZ5.out; first | omega | (rw [← e]; exact sz_int64 om om)
  have HZ6 : Hid ((q).num = n) := Lib.hid (by rw [← HN.out]; rfl)
  have su6 : wl (Int.natAbs (n)) ≤ 2 := by have e := HZ6.out; first | omega | (rw [← e]; exact Nat.le_trans (sz_num _) (by omega))
  refine kS fun K hK => ?_
  refine sq 9 [(true, 0), (true, 1), (true, 2), (true, 3), (true, 4), (true, 5), (true, 6), (true, 7), (true, 8)] fun T hT => ?_
  refine tk ?_
  refine ck Tryz.call66 (fun w' hw => fint_any (n) (q) _ HZ5.out om om) ?_
  refine ck Tryz.call90 (fun w' hw => fnum_z (q) (n) _ HZ6.out) ?_
  refine ck Tryz.call20 (fun w' hw => i64_in (n) _ (by exact ⟨by omega, by omega⟩)) ?_
  iterate 5 refine tk ?_
  refine nlS hT HF fun vw4 HG => ?_
  clear hT T HF
  go_wp2
  refine hK.out _ _ ?_; clear hK K
  show Code.wp _ _ _ _ _
  have HF := HG; clear HG
  have HB := HPb HF
  have HZ7 : Hid (((d : Int) : Rat) = r) := Lib.hid (by first | exact ok | assumption | exact HN.out | exact HD.out | (rw [← HN.out]; rfl) | (simp only [← HZ1.out] <;> first | exact ok | assumption | exact HN.out | exact HD.out | (rw [← HN.out]; rfl)))
  have su7 : sz (r) ≤ 2 := by have e := HZ7.out; first | omega | (rw [← e]; exact sz_int64 om om)
  have HZ8 : Hid ((u1) * (r) = q) := Lib.hid (by rw [← HZ1.out, HN.out, HD.out]; exact Rat.div_mul_cancel hr0)
  have su8 : sz (q) ≤ 6 := by have e := HZ8.out; first | omega | (rw [← e]; have := sz_mul (u1) (r); omega)
  have HZ9 : Hid (((n : Int) : Rat) = q) := Lib.hid (by first | exact ok | assumption | exact HN.out | exact HD.out | (rw [← HN.out]; rfl) | (simp only [← HZ1.out] <;> first | exact ok | assumption | exact HN.out | exact HD.out | (rw [← HN.out]; rfl)))
  have su9 : sz (q) ≤ 2 := by have e := HZ9.out; first | omega | (rw [← e]; exact sz_int64 om om)
  have HZ10 : Hid (((n : Int) : Rat) = q) := Lib.hid (by first | exact ok | assumption | exact HN.out | exact HD.out | (rw [← HN.out]; rfl) | (simp only [← HZ1.out] <;> first | exact ok | assumption | exact HN.out | exact HD.out | (rw [← HN.out]; rfl)))
  have su10 : sz (q) ≤ 2 := by have e := HZ10.out; first | omega | (rw [← e]; exact sz_int64 om om)
  have lx1 := HF.out.c 0 rfl
  have lx2 := HF.out.c 1 rfl
  refine kS fun K hK => ?_
  refine pd 36 [(true, 0), (true, 1), (true, 2), (true, 3), (true, 4), (true, 5), (true, 6), (true, 7), (true, 8), (true, 9), (true, 10), (true, 11), (true, 12), (true, 13), (true, 16), (true, 14), (true, 15), (true, 17), (true, 18), (true, 19), (true, 20), (true, 21), (true, 22), (true, 23), (true, 24), (true, 25), (true, 26), (true, 27), (true, 28), (true, 29), (true, 30), (true, 31), (true, 32), (true, 33), (true, 34), (true, 35)] fun T hT => ?_
  iterate 15 refine tk ?_
  refine ck Tryz.call66 (fun w' hw => fint_any (d) (r) _ HZ7.out om om) ?_
  refine ck Tryz.call79 (fun w' hw => fmul_any (u1) (r) (q) _ HZ8.out om om) ?_
  refine ck Tryz.call66 (fun w' hw => fint_any (n) (q) _ HZ9.out om om) ?_
  iterate 12 refine tk ?_
  refine ck Tryz.call66 (fun w' hw => fint_any (n) (q) _ HZ10.out om om) ?_
  refine ck Tryz.call59 (fun w' hw => fiswhole_any (q) true _ (decide_eq_true (by first | exact ok | assumption | exact HN.out | exact HD.out | (rw [← HN.out]; rfl) | (simp only [← HZ1.out] <;> first | exact ok | assumption | exact HN.out | exact HD.out | (rw [← HN.out]; rfl))))) ?_
  iterate 2 refine tk ?_
  refine ck Tryz.call49 (fun w' hw => worksq_any _ (Lib.hid (HT.out.gr (Gr.trans HB.out hw)))) ?_
  refine tk ?_
  refine nlD hT HF fun vw5 HG => ?_
  clear hT T HF lx1 lx2 HB
  go_wp2
  refine hK.out _ _ ?_; clear hK K
  show Code.wp _ _ _ _ _
  refine fH (((HG.out).er 1).er 0) fun Wx6 HF => ?_
  clear HG
  refine wp_ret ?_
  try simp only [Exit.then, Exit.inBlock]
  exact bodyPost_ret (v := .bool true) (by simp [results, Tryz.results13, go_sem]) rfl ⟨rfl, HF.out.1⟩

theorem smallq_law (n d : Int) (w : World) (h1 : -9223372036854775808 ≤ n) (h2 : n ≤ 9223372036854775807) (h3 : -9223372036854775808 ≤ d) (h4 : d ≤ 9223372036854775807) (HT : Hid (Tab w)) :
    Calls Tryz.prog 13 #[.int .i64 n, .int .i64 d] w fun e w' => e = .returned (.bool true) ∧ Below w.heap.size w w' := by
  by_cases hd : d = 0
  · subst hd
    exact smallq_zero n w h1 h2 HT
  · exact smallq_ne n d _ _ w h1 h2 h3 h4 hd (Lib.hid rfl) (Lib.hid rfl) (fun e => hd (Rat.intCast_eq_zero_iff.1 e)) HT

end Go.Proofs.YtpcfncbcpknobaaGreatDoor
