
/- DecimalsRounds: the law's walk. -/
import Derived.Test.YtgdibedgjndcoaaGreatDoorDecN
import Derived.Test.YtgdibedgjndcoaaGreatDoorSgnP
import Derived.Test.YtgdibedgjndcoaaGreatDoorPlanQ
namespace Go.Proofs.YtgdibedgjndcoaaGreatDoor
open Go.RowKit
set_option linter.unusedSimpArgs false
set_option linter.unusedVariables false
attribute [local go_sem ↓] Go.wp_at_zero Go.wp_at_succ
attribute [local go_sem ↓] eq_nat eq_nat_zero eq_int eq_frac eq_frac_zero
attribute [local go_sem] Instr.field asAgg
set_option maxRecDepth 100000 in
set_option maxHeartbeats 16000000 in
theorem roundsd_far (n d k : Int) (r : Nat) (a b c : Rat) (w : World) (h1 : -9223372036854775808 ≤ n) (h2 : n ≤ 9223372036854775807) (h3 : 0 ≤ d) (h4 : d ≤ 4294967295) (k1 : -32768 ≤ k) (k2 : k ≤ 32767) (HR : Hid (Int.tmod d 200 = (r : Int))) (hr : r ≤ 199) (HA : Hid ((n : Rat) / (((r : Int) + 1 : Int) : Rat) = a)) (hsa : sz a ≤ 4) (HBB : Hid (a + ((k : Int) : Rat) = b)) (hsb : sz b ≤ 8) (HNG : Hid (-a = c)) (HC0 : Hid (cyc (a).den = (0, 0, 3))) (HC1 : Hid (cyc (b).den = (0, 0, 3))) (HC2 : Hid (cyc (c).den = (0, 0, 3))) (HT : Hid (Tab w)) :
    Calls Tryz.prog 11 #[.agg #[.int .i64 n, .int .u32 d], .int .i16 k] w fun e w' => e = .returned (.bool true) ∧ Below w.heap.size w w' := by
  have hwr : IntKind.i64.wrap (r : Int) = (r : Int) := by rw [IntKind.wrap_i64]; omega
  have hwk : IntKind.i64.wrap k = k := by rw [IntKind.wrap_i64]; omega
  go_enter Tryz.func11, Tryz.ntmps11
  have HF := Lib.hid (hp0 w)
  refine kS fun K hK => ?_
  refine wp_region_lit ?_
  go_wp2
  refine hK.out _ _ ?_; clear hK K
  show Code.wp _ _ _ _ _
  refine fH ((HF.out).al (b := w.heap.size) (by first | rfl | simp) (by decide)) fun Wx0 HG => ?_
  clear HF; have HF := HG; clear HG
  have hrr : Int.tmod d 200 = (r : Int) := HR.out
  have hwr1 : IntKind.i64.wrap ((r : Int) + 1) = (r : Int) + 1 := by rw [IntKind.wrap_i64]; omega
  have HZ1 : Hid (((n : Int) : Rat) / (((r : Int) + 1 : Int) : Rat) = a) := Lib.hid (HA.out)
  have su1 : sz (a) ≤ 4 := by have e := HZ1.out; first | omega | (rw [← e]; exact sz_quot (n) ((r : Int) + 1) om om om om)
  have lx0 := HF.out.c 0 rfl
  refine kS fun K hK => ?_
  refine sq 11 [(true, 0), (true, 1), (true, 2), (true, 3), (true, 4), (true, 5), (true, 6), (true, 7), (true, 8), (true, 9), (true, 10)] fun T hT => ?_
  iterate 7 refine tk ?_
  refine ck Tryz.call53 (fun w' hw => fof_any (n) ((r : Int) + 1) (a) _ HZ1.out (by first | decide | omega) om om om om) ?_
  iterate 3 refine tk ?_
  refine nlS hT HF fun vw1 HG => ?_
  clear hT T HF lx0
  go_wp2
  refine hK.out _ _ ?_; clear hK K
  show Code.wp _ _ _ _ _
  refine fH (((HG.out).al (b := vw1.heap.size) (by first | rfl | simp) (by decide)).er 0) fun Wx1 HF => ?_
  clear HG
  generalize vw1.heap.size = gx2 at *
  clear hrr hwr1
  have lx2 := HF.out.c 0 rfl
  refine kS fun K hK => ?_
  refine sq 9 [(true, 0), (true, 1), (true, 2), (true, 3), (true, 4), (true, 5), (true, 6), (true, 7), (true, 8)] fun T hT => ?_
  refine tk ?_
  refine ck Tryz.call45 (fun w' hw => cycle_any (a) (0) (0) (3) _ (HC0.out) om) ?_
  iterate 7 refine tk ?_
  refine nlS hT HF fun vw2 HG => ?_
  clear hT T HF lx2
  go_wp2
  refine hK.out _ _ ?_; clear hK K
  show Code.wp _ _ _ _ _
  have HF := HG; clear HG
  obtain ⟨u2, HZ2⟩ : ∃ z, Hid (((k : Int) : Rat) = z) := ⟨_, Lib.hid rfl⟩
  have su2 : sz (u2) ≤ 2 := by rw [← HZ2.out]; exact sz_int64 om om
  have HZ3 : Hid ((a) + (u2) = b) := Lib.hid (by simp only [← HZ2.out]; exact HBB.out)
  have su3 : sz (b) ≤ 8 := by have e := HZ3.out; first | omega | (rw [← e]; have := sz_add (a) (u2); omega)
  have lx2 := HF.out.c 0 rfl
  refine kS fun K hK => ?_
  refine pd 12 [(true, 0), (true, 1), (true, 2), (true, 3), (true, 4), (true, 5), (true, 6), (true, 7), (true, 8), (true, 9), (true, 10), (true, 11)] fun T hT => ?_
  iterate 3 refine tk ?_
  refine ck Tryz.call54 (fun w' hw => fint_any (k) (u2) _ HZ2.out om om) ?_
  refine ck Tryz.call22 (fun w' hw => fadd_any (a) (u2) (b) _ HZ3.out om om) ?_
  refine ck Tryz.call45 (fun w' hw => cycle_any (b) (0) (0) (3) _ (HC1.out) om) ?_
  iterate 6 refine tk ?_
  refine nlD hT HF fun vw3 HG => ?_
  clear hT T HF lx2
  go_wp2
  refine hK.out _ _ ?_; clear hK K
  show Code.wp _ _ _ _ _
  have HF := HG; clear HG
  have HZ4 : Hid (-(a) = c) := Lib.hid (HNG.out)
  have su4 : sz (c) ≤ 4 := by have e := HZ4.out; first | omega | (rw [← e]; rw [sz_neg]; omega)
  have lx2 := HF.out.c 0 rfl
  refine kS fun K hK => ?_
  refine sq 10 [(true, 0), (true, 1), (true, 2), (true, 3), (true, 4), (true, 5), (true, 6), (true, 7), (true, 8), (true, 9)] fun T hT => ?_
  refine tk ?_
  refine ck Tryz.call52 (fun w' hw => fneg_any (a) (c) _ HZ4.out) ?_
  refine ck Tryz.call45 (fun w' hw => cycle_any (c) (0) (0) (3) _ (HC2.out) om) ?_
  iterate 7 refine tk ?_
  refine nlS hT HF fun vw4 HG => ?_
  clear hT T HF lx2
  go_wp2
  refine hK.out _ _ ?_; clear hK K
  show Code.wp _ _ _ _ _
  have HF := HG; clear HG
  refine wp_seq ?_
  refine kS fun K hK => ?_
  refine sq 28 [(true, 0), (true, 1), (true, 2), (true, 3), (true, 4), (true, 5), (true, 6), (true, 7), (true, 8), (true, 9), (true, 10), (true, 11), (true, 12), (true, 13), (true, 14), (true, 15), (true, 16), (true, 17), (true, 18), (true, 19), (true, 20), (true, 21), (true, 22), (true, 23), (true, 24), (true, 25), (true, 26), (true, 27)] fun T hT => ?_
  iterate 28 refine tk ?_
  refine nlS hT HF fun vw5 HG => ?_
  clear hT T HF
  go_wp2
  refine hK.out _ _ ?_; clear hK K
  show Code.wp _ _ _ _ _
  have HF := HG; clear HG
  refine wp_cond_false (by rfl) ?_
  refine wp_skip ?_
  show Code.wp _ _ _ _ _
  refine wp_seq ?_
  refine kS fun K hK => ?_
  refine sq 2 [(true, 0), (true, 1)] fun T hT => ?_
  iterate 2 refine tk ?_
  refine nlS hT HF fun vw6 HG => ?_
  clear hT T HF
  go_wp2
  refine hK.out _ _ ?_; clear hK K
  show Code.wp _ _ _ _ _
  have HF := HG; clear HG
  refine wp_cond_true (by rfl) ?_
  have HB := HPb HF
  refine kS fun K hK => ?_
  refine sq 14 [(true, 0), (true, 1), (true, 2), (true, 3), (true, 4), (true, 5), (true, 6), (true, 7), (true, 8), (true, 9), (true, 10), (true, 11), (true, 12), (true, 13)] fun T hT => ?_
  iterate 11 refine tk ?_
  refine ck Tryz.call35 (fun w' hw => worksd_any _ (Lib.hid (HT.out.gr (Gr.trans HB.out hw)))) ?_
  iterate 2 refine tk ?_
  refine nlS hT HF fun vw7 HG => ?_
  clear hT T HF HB
  go_wp2
  refine hK.out _ _ ?_; clear hK K
  show Code.wp _ _ _ _ _
  have HF := HG; clear HG
  refine wp_ret ?_
  try simp only [Exit.then, Exit.inBlock]
  exact bodyPost_ret (v := .bool true) (by simp [results, Tryz.results11, go_sem]) rfl ⟨rfl, HF.out.1⟩

set_option maxRecDepth 100000 in
set_option maxHeartbeats 16000000 in
theorem roundsd_ok (n d k : Int) (r : Nat) (a b c : Rat) (A L : Nat) (w : World) (h1 : -9223372036854775808 ≤ n) (h2 : n ≤ 9223372036854775807) (h3 : 0 ≤ d) (h4 : d ≤ 4294967295) (k1 : -32768 ≤ k) (k2 : k ≤ 32767) (HR : Hid (Int.tmod d 200 = (r : Int))) (hr : r ≤ 199) (HA : Hid ((n : Rat) / (((r : Int) + 1 : Int) : Rat) = a)) (hsa : sz a ≤ 4) (HBB : Hid (a + ((k : Int) : Rat) = b)) (hsb : sz b ≤ 8) (HNG : Hid (-a = c)) (HC0 : Hid (cyc (a).den = ((A : Int), (L : Int), 0))) (HC1 : Hid (cyc (b).den = ((A : Int), (L : Int), 0))) (HC2 : Hid (cyc (c).den = ((A : Int), (L : Int), 0))) (hA : A ≤ 100) (hL : L ≤ 100) (HW1 : Hid (decide ((rwz a A L).den = 1) = true)) (HW2 : Hid (∀ B, A = B + 1 → decide ((rwz a B L).den = 1) = false)) (HW3 : Hid (∀ i, 1 ≤ i → i < L → decide ((rwz a A i).den = 1) = false)) (HW4 : Hid (¬ L = 0 → decide ((rwz a A 0).den = 1) = false)) (HT : Hid (Tab w)) :
    Calls Tryz.prog 11 #[.agg #[.int .i64 n, .int .u32 d], .int .i16 k] w fun e w' => e = .returned (.bool true) ∧ Below w.heap.size w w' := by
  have hwr : IntKind.i64.wrap (r : Int) = (r : Int) := by rw [IntKind.wrap_i64]; omega
  have hwk : IntKind.i64.wrap k = k := by rw [IntKind.wrap_i64]; omega
  go_enter Tryz.func11, Tryz.ntmps11
  have HF := Lib.hid (hp0 w)
  refine kS fun K hK => ?_
  refine wp_region_lit ?_
  go_wp2
  refine hK.out _ _ ?_; clear hK K
  show Code.wp _ _ _ _ _
  refine fH ((HF.out).al (b := w.heap.size) (by first | rfl | simp) (by decide)) fun Wx0 HG => ?_
  clear HF; have HF := HG; clear HG
  have hrr : Int.tmod d 200 = (r : Int) := HR.out
  have hwr1 : IntKind.i64.wrap ((r : Int) + 1) = (r : Int) + 1 := by rw [IntKind.wrap_i64]; omega
  have HZ1 : Hid (((n : Int) : Rat) / (((r : Int) + 1 : Int) : Rat) = a) := Lib.hid (HA.out)
  have su1 : sz (a) ≤ 4 := by have e := HZ1.out; first | omega | (rw [← e]; exact sz_quot (n) ((r : Int) + 1) om om om om)
  have lx0 := HF.out.c 0 rfl
  refine kS fun K hK => ?_
  refine sq 11 [(true, 0), (true, 1), (true, 2), (true, 3), (true, 4), (true, 5), (true, 6), (true, 7), (true, 8), (true, 9), (true, 10)] fun T hT => ?_
  iterate 7 refine tk ?_
  refine ck Tryz.call53 (fun w' hw => fof_any (n) ((r : Int) + 1) (a) _ HZ1.out (by first | decide | omega) om om om om) ?_
  iterate 3 refine tk ?_
  refine nlS hT HF fun vw1 HG => ?_
  clear hT T HF lx0
  go_wp2
  refine hK.out _ _ ?_; clear hK K
  show Code.wp _ _ _ _ _
  refine fH (((HG.out).al (b := vw1.heap.size) (by first | rfl | simp) (by decide)).er 0) fun Wx1 HF => ?_
  clear HG
  generalize vw1.heap.size = gx2 at *
  clear hrr hwr1
  have lx2 := HF.out.c 0 rfl
  refine kS fun K hK => ?_
  refine sq 9 [(true, 0), (true, 1), (true, 2), (true, 3), (true, 4), (true, 5), (true, 6), (true, 7), (true, 8)] fun T hT => ?_
  refine tk ?_
  refine ck Tryz.call45 (fun w' hw => cycle_any (a) ((A : Int)) ((L : Int)) (0) _ (HC0.out) om) ?_
  iterate 7 refine tk ?_
  refine nlS hT HF fun vw2 HG => ?_
  clear hT T HF lx2
  go_wp2
  refine hK.out _ _ ?_; clear hK K
  show Code.wp _ _ _ _ _
  have HF := HG; clear HG
  obtain ⟨u2, HZ2⟩ : ∃ z, Hid (((k : Int) : Rat) = z) := ⟨_, Lib.hid rfl⟩
  have su2 : sz (u2) ≤ 2 := by rw [← HZ2.out]; exact sz_int64 om om
  have HZ3 : Hid ((a) + (u2) = b) := Lib.hid (by simp only [← HZ2.out]; exact HBB.out)
  have su3 : sz (b) ≤ 8 := by have e := HZ3.out; first | omega | (rw [← e]; have := sz_add (a) (u2); omega)
  have lx2 := HF.out.c 0 rfl
  refine kS fun K hK => ?_
  refine pd 12 [(true, 0), (true, 1), (true, 2), (true, 3), (true, 4), (true, 5), (true, 6), (true, 7), (true, 8), (true, 9), (true, 10), (true, 11)] fun T hT => ?_
  iterate 3 refine tk ?_
  refine ck Tryz.call54 (fun w' hw => fint_any (k) (u2) _ HZ2.out om om) ?_
  refine ck Tryz.call22 (fun w' hw => fadd_any (a) (u2) (b) _ HZ3.out om om) ?_
  refine ck Tryz.call45 (fun w' hw => cycle_any (b) ((A : Int)) ((L : Int)) (0) _ (HC1.out) om) ?_
  iterate 6 refine tk ?_
  refine nlD hT HF fun vw3 HG => ?_
  clear hT T HF lx2
  go_wp2
  refine hK.out _ _ ?_; clear hK K
  show Code.wp _ _ _ _ _
  have HF := HG; clear HG
  have HZ4 : Hid (-(a) = c) := Lib.hid (HNG.out)
  have su4 : sz (c) ≤ 4 := by have e := HZ4.out; first | omega | (rw [← e]; rw [sz_neg]; omega)
  have lx2 := HF.out.c 0 rfl
  refine kS fun K hK => ?_
  refine sq 10 [(true, 0), (true, 1), (true, 2), (true, 3), (true, 4), (true, 5), (true, 6), (true, 7), (true, 8), (true, 9)] fun T hT => ?_
  refine tk ?_
  refine ck Tryz.call52 (fun w' hw => fneg_any (a) (c) _ HZ4.out) ?_
  refine ck Tryz.call45 (fun w' hw => cycle_any (c) ((A : Int)) ((L : Int)) (0) _ (HC2.out) om) ?_
  iterate 7 refine tk ?_
  refine nlS hT HF fun vw4 HG => ?_
  clear hT T HF lx2
  go_wp2
  refine hK.out _ _ ?_; clear hK K
  show Code.wp _ _ _ _ _
  have HF := HG; clear HG
  refine wp_seq ?_
  refine kS fun K hK => ?_
  refine sq 28 [(true, 0), (true, 1), (true, 2), (true, 3), (true, 4), (true, 5), (true, 6), (true, 7), (true, 8), (true, 9), (true, 10), (true, 11), (true, 12), (true, 13), (true, 14), (true, 15), (true, 16), (true, 17), (true, 18), (true, 19), (true, 20), (true, 21), (true, 22), (true, 23), (true, 24), (true, 25), (true, 26), (true, 27)] fun T hT => ?_
  iterate 28 refine tk ?_
  refine nlS hT HF fun vw5 HG => ?_
  clear hT T HF
  go_wp2
  refine hK.out _ _ ?_; clear hK K
  show Code.wp _ _ _ _ _
  have HF := HG; clear HG
  refine wp_cond_false (by rfl) ?_
  refine wp_skip ?_
  show Code.wp _ _ _ _ _
  refine wp_seq ?_
  refine kS fun K hK => ?_
  refine sq 2 [(true, 0), (true, 1)] fun T hT => ?_
  iterate 2 refine tk ?_
  refine nlS hT HF fun vw6 HG => ?_
  clear hT T HF
  go_wp2
  refine hK.out _ _ ?_; clear hK K
  show Code.wp _ _ _ _ _
  have HF := HG; clear HG
  refine wp_cond_false (by rfl) ?_
  refine wp_skip ?_
  show Code.wp _ _ _ _ _
  refine wp_seq ?_
  rcases Nat.eq_zero_or_pos A with hA0 | hA0
  · have HA0 := Lib.hid hA0
    clear hA0
    have hga : ¬ 0 < A := by have := HA0.out; omega
    have lx2 := HF.out.c 0 rfl
    refine kS fun K hK => ?_
    refine sq 16 [(true, 0), (true, 1), (true, 2), (true, 3), (true, 4), (true, 5), (true, 6), (true, 7), (true, 8), (true, 9), (true, 10), (true, 11), (true, 12), (true, 13), (true, 14), (true, 15)] fun T hT => ?_
    iterate 3 refine tk ?_
    refine ck Tryz.call55 (fun w' hw => dround_w (a) A L true _ (HW1.out) (by omega) (by omega) om) ?_
    iterate 5 refine tk ?_
    iterate 5 refine sk ?_
    iterate 2 refine tk ?_
    refine nlS hT HF fun vw7 HG => ?_
    clear hT T HF lx2
    go_wp2
    refine hK.out _ _ ?_; clear hK K
    show Code.wp _ _ _ _ _
    have HF := HG; clear HG
    clear hga
    refine wp_cond_false (by rfl) ?_
    refine wp_skip ?_
    show Code.wp _ _ _ _ _
    refine wp_seq ?_
    refine kS fun K hK => ?_
    refine wp_region_lit ?_
    go_wp2
    refine hK.out _ _ ?_; clear hK K
    show Code.wp _ _ _ _ _
    refine fH (HF.out) fun Wx11 HG => ?_
    clear HF; have HF := HG; clear HG
    refine wp_block ?_
    go_loopg [16] L (fun k iv wr => ∃ i : Nat, iv = .int .i64 (i : Int) ∧ 1 ≤ i ∧ i + k = L + 1 ∧ Hid (HP w wr [Sum.inl (gx2, 36, #[.int .u64 ((lo (Int.natAbs ((a).num)) : Nat) : Int), .string (bg (Int.natAbs ((a).num))), .bool (decide (((a).num) < 0)), .int .u64 ((lo ((a).den - 1) : Nat) : Int), .string (bg ((a).den - 1))])]))
    case atStart => exact ⟨1, rfl, Nat.le_refl _, by omega, HF⟩
    case round =>
      rename_i J_ K_ hj1_ hj0_
      clear HF
      obtain ⟨i, rfl, hi1, hik, HF⟩ := hrel
      by_cases hiL : i < L
      · have HI := Lib.hid hiL
        clear hiL
        refine wp_seq ?_
        have hil : (i : Int) < (L : Int) := by have := HI.out; omega
        refine kS fun K hK => ?_
        refine sq 3 [(true, 0), (true, 1), (true, 2)] fun T hT => ?_
        iterate 3 refine tk ?_
        refine nlS hT HF fun vw8 HG => ?_
        clear hT T HF
        go_wp2
        refine hK.out _ _ ?_; clear hK K
        show Code.wp _ _ _ _ _
        have HF := HG; clear HG
        clear hil
        refine wp_cond_true (by rfl) ?_
        refine wp_skip ?_
        show Code.wp _ _ _ _ _
        refine wp_seq ?_
        refine wp_block ?_
        have lx2 := HF.out.c 0 rfl
        refine kS fun K hK => ?_
        refine sq 4 [(true, 0), (true, 1), (true, 2), (true, 3)] fun T hT => ?_
        iterate 3 refine tk ?_
        refine ck Tryz.call55 (fun w' hw => dround_w (a) A i false _ (HW3.out i hi1 HI.out) (by omega) (by omega) om) ?_
        refine nlS hT HF fun vw9 HG => ?_
        clear hT T HF lx2
        go_wp2
        refine hK.out _ _ ?_; clear hK K
        show Code.wp _ _ _ _ _
        have HF := HG; clear HG
        refine wp_cond_false (by rfl) ?_
        refine wp_skip ?_
        show Code.wp _ _ _ _ _
        have hwi : IntKind.i64.wrap ((i : Int) + 1) = (i : Int) + 1 := by rw [IntKind.wrap_i64]; omega
        refine kL fun K hK => ?_
        refine sq 3 [(true, 0), (true, 1), (true, 2)] fun T hT => ?_
        iterate 3 refine tk ?_
        refine nlS hT HF fun vw10 HG => ?_
        clear hT T HF
        go_wp2
        refine hK.out _ _ ?_; clear hK K
        try simp only [Exit.then, Exit.inBlock]
        have HF := Lib.hid (HG.out); clear HG
        clear hwi
        refine hj0_ _ _ ?_
        go_roundg (gk - 1)
        case measure => have := HI.out; omega
        case rel => exact ⟨i + 1, rfl, by omega, by have := HI.out; omega, Lib.hid (HF.out)⟩
      · have HI := Lib.hid hiL
        clear hiL
        refine wp_seq ?_
        have hil : ¬ (i : Int) < (L : Int) := by have := HI.out; omega
        refine kS fun K hK => ?_
        refine sq 3 [(true, 0), (true, 1), (true, 2)] fun T hT => ?_
        iterate 3 refine tk ?_
        refine nlS hT HF fun vw8 HG => ?_
        clear hT T HF
        go_wp2
        refine hK.out _ _ ?_; clear hK K
        show Code.wp _ _ _ _ _
        have HF := HG; clear HG
        clear hil
        refine wp_cond_false (by rfl) ?_
        refine wp_exit ?_
        show Code.wp _ _ _ _ _
        by_cases hL0 : L = 0
        · have HL0 := Lib.hid hL0
          clear hL0
          have HB := HPb HF
          have hlz : ((L : Int) == 0) = true := by have h9 := HL0.out; simp [h9]
          have lx2 := HF.out.c 0 rfl
          refine kS fun K hK => ?_
          refine sq 12 [(true, 0), (true, 1), (true, 2), (true, 3), (true, 4), (true, 5), (true, 6), (true, 7), (true, 8), (true, 9), (true, 10), (true, 11)] fun T hT => ?_
          iterate 3 refine tk ?_
          iterate 4 refine sk ?_
          iterate 2 refine tk ?_
          refine ck Tryz.call35 (fun w' hw => worksd_any _ (Lib.hid (HT.out.gr (Gr.trans HB.out hw)))) ?_
          iterate 2 refine tk ?_
          refine nlS hT HF fun vw9 HG => ?_
          clear hT T HF lx2 HB
          go_wp2
          refine hK.out _ _ ?_; clear hK K
          show Code.wp _ _ _ _ _
          refine fH ((HG.out).er 0) fun Wx16 HF => ?_
          clear HG
          clear hlz
          refine wp_ret ?_
          try simp only [Exit.then, Exit.inBlock]
          exact bodyPost_ret (v := .bool true) (by simp [results, Tryz.results11, go_sem]) rfl ⟨rfl, HF.out.1⟩
        · have HL0 := Lib.hid hL0
          clear hL0
          have HB := HPb HF
          have hlz : ((L : Int) == 0) = false := by have h9 : ¬ ((L : Int) = 0) := (by have := HL0.out; omega); simpa using h9
          have lx2 := HF.out.c 0 rfl
          refine kS fun K hK => ?_
          refine sq 12 [(true, 0), (true, 1), (true, 2), (true, 3), (true, 4), (true, 5), (true, 6), (true, 7), (true, 8), (true, 9), (true, 10), (true, 11)] fun T hT => ?_
          iterate 5 refine tk ?_
          refine ck Tryz.call55 (fun w' hw => dround_w (a) A 0 false _ (HW4.out HL0.out) (by omega) (by omega) om) ?_
          iterate 3 refine tk ?_
          refine ck Tryz.call35 (fun w' hw => worksd_any _ (Lib.hid (HT.out.gr (Gr.trans HB.out hw)))) ?_
          iterate 2 refine tk ?_
          refine nlS hT HF fun vw9 HG => ?_
          clear hT T HF lx2 HB
          go_wp2
          refine hK.out _ _ ?_; clear hK K
          show Code.wp _ _ _ _ _
          refine fH ((HG.out).er 0) fun Wx16 HF => ?_
          clear HG
          clear hlz
          refine wp_ret ?_
          try simp only [Exit.then, Exit.inBlock]
          exact bodyPost_ret (v := .bool true) (by simp [results, Tryz.results11, go_sem]) rfl ⟨rfl, HF.out.1⟩
  · obtain ⟨B, hB⟩ : ∃ B, A = B + 1 := ⟨A - 1, by omega⟩
    have HA0 := Lib.hid hB
    have hBL : B ≤ 100 := by omega
    clear hA0 hB
    have hga : 0 < A := by have := HA0.out; omega
    have hwb : IntKind.i64.wrap ((A : Int) - 1) = (B : Int) := by have := HA0.out; rw [IntKind.wrap_i64]; omega
    have lx2 := HF.out.c 0 rfl
    refine kS fun K hK => ?_
    refine sq 16 [(true, 0), (true, 1), (true, 2), (true, 3), (true, 4), (true, 5), (true, 6), (true, 7), (true, 8), (true, 9), (true, 10), (true, 11), (true, 12), (true, 13), (true, 14), (true, 15)] fun T hT => ?_
    iterate 3 refine tk ?_
    refine ck Tryz.call55 (fun w' hw => dround_w (a) A L true _ (HW1.out) (by omega) (by omega) om) ?_
    iterate 9 refine tk ?_
    refine ck Tryz.call55 (fun w' hw => dround_w (a) B L false _ (HW2.out _ HA0.out) (by omega) (by omega) om) ?_
    iterate 2 refine tk ?_
    refine nlS hT HF fun vw7 HG => ?_
    clear hT T HF lx2
    go_wp2
    refine hK.out _ _ ?_; clear hK K
    show Code.wp _ _ _ _ _
    have HF := HG; clear HG
    clear hga hwb
    refine wp_cond_false (by rfl) ?_
    refine wp_skip ?_
    show Code.wp _ _ _ _ _
    refine wp_seq ?_
    refine kS fun K hK => ?_
    refine wp_region_lit ?_
    go_wp2
    refine hK.out _ _ ?_; clear hK K
    show Code.wp _ _ _ _ _
    refine fH (HF.out) fun Wx11 HG => ?_
    clear HF; have HF := HG; clear HG
    refine wp_block ?_
    go_loopg [16] L (fun k iv wr => ∃ i : Nat, iv = .int .i64 (i : Int) ∧ 1 ≤ i ∧ i + k = L + 1 ∧ Hid (HP w wr [Sum.inl (gx2, 36, #[.int .u64 ((lo (Int.natAbs ((a).num)) : Nat) : Int), .string (bg (Int.natAbs ((a).num))), .bool (decide (((a).num) < 0)), .int .u64 ((lo ((a).den - 1) : Nat) : Int), .string (bg ((a).den - 1))])]))
    case atStart => exact ⟨1, rfl, Nat.le_refl _, by omega, HF⟩
    case round =>
      rename_i J_ K_ hj1_ hj0_
      clear HF
      obtain ⟨i, rfl, hi1, hik, HF⟩ := hrel
      by_cases hiL : i < L
      · have HI := Lib.hid hiL
        clear hiL
        refine wp_seq ?_
        have hil : (i : Int) < (L : Int) := by have := HI.out; omega
        refine kS fun K hK => ?_
        refine sq 3 [(true, 0), (true, 1), (true, 2)] fun T hT => ?_
        iterate 3 refine tk ?_
        refine nlS hT HF fun vw8 HG => ?_
        clear hT T HF
        go_wp2
        refine hK.out _ _ ?_; clear hK K
        show Code.wp _ _ _ _ _
        have HF := HG; clear HG
        clear hil
        refine wp_cond_true (by rfl) ?_
        refine wp_skip ?_
        show Code.wp _ _ _ _ _
        refine wp_seq ?_
        refine wp_block ?_
        have lx2 := HF.out.c 0 rfl
        refine kS fun K hK => ?_
        refine sq 4 [(true, 0), (true, 1), (true, 2), (true, 3)] fun T hT => ?_
        iterate 3 refine tk ?_
        refine ck Tryz.call55 (fun w' hw => dround_w (a) A i false _ (HW3.out i hi1 HI.out) (by omega) (by omega) om) ?_
        refine nlS hT HF fun vw9 HG => ?_
        clear hT T HF lx2
        go_wp2
        refine hK.out _ _ ?_; clear hK K
        show Code.wp _ _ _ _ _
        have HF := HG; clear HG
        refine wp_cond_false (by rfl) ?_
        refine wp_skip ?_
        show Code.wp _ _ _ _ _
        have hwi : IntKind.i64.wrap ((i : Int) + 1) = (i : Int) + 1 := by rw [IntKind.wrap_i64]; omega
        refine kL fun K hK => ?_
        refine sq 3 [(true, 0), (true, 1), (true, 2)] fun T hT => ?_
        iterate 3 refine tk ?_
        refine nlS hT HF fun vw10 HG => ?_
        clear hT T HF
        go_wp2
        refine hK.out _ _ ?_; clear hK K
        try simp only [Exit.then, Exit.inBlock]
        have HF := Lib.hid (HG.out); clear HG
        clear hwi
        refine hj0_ _ _ ?_
        go_roundg (gk - 1)
        case measure => have := HI.out; omega
        case rel => exact ⟨i + 1, rfl, by omega, by have := HI.out; omega, Lib.hid (HF.out)⟩
      · have HI := Lib.hid hiL
        clear hiL
        refine wp_seq ?_
        have hil : ¬ (i : Int) < (L : Int) := by have := HI.out; omega
        refine kS fun K hK => ?_
        refine sq 3 [(true, 0), (true, 1), (true, 2)] fun T hT => ?_
        iterate 3 refine tk ?_
        refine nlS hT HF fun vw8 HG => ?_
        clear hT T HF
        go_wp2
        refine hK.out _ _ ?_; clear hK K
        show Code.wp _ _ _ _ _
        have HF := HG; clear HG
        clear hil
        refine wp_cond_false (by rfl) ?_
        refine wp_exit ?_
        show Code.wp _ _ _ _ _
        by_cases hL0 : L = 0
        · have HL0 := Lib.hid hL0
          clear hL0
          have HB := HPb HF
          have hlz : ((L : Int) == 0) = true := by have h9 := HL0.out; simp [h9]
          have lx2 := HF.out.c 0 rfl
          refine kS fun K hK => ?_
          refine sq 12 [(true, 0), (true, 1), (true, 2), (true, 3), (true, 4), (true, 5), (true, 6), (true, 7), (true, 8), (true, 9), (true, 10), (true, 11)] fun T hT => ?_
          iterate 3 refine tk ?_
          iterate 4 refine sk ?_
          iterate 2 refine tk ?_
          refine ck Tryz.call35 (fun w' hw => worksd_any _ (Lib.hid (HT.out.gr (Gr.trans HB.out hw)))) ?_
          iterate 2 refine tk ?_
          refine nlS hT HF fun vw9 HG => ?_
          clear hT T HF lx2 HB
          go_wp2
          refine hK.out _ _ ?_; clear hK K
          show Code.wp _ _ _ _ _
          refine fH ((HG.out).er 0) fun Wx16 HF => ?_
          clear HG
          clear hlz
          refine wp_ret ?_
          try simp only [Exit.then, Exit.inBlock]
          exact bodyPost_ret (v := .bool true) (by simp [results, Tryz.results11, go_sem]) rfl ⟨rfl, HF.out.1⟩
        · have HL0 := Lib.hid hL0
          clear hL0
          have HB := HPb HF
          have hlz : ((L : Int) == 0) = false := by have h9 : ¬ ((L : Int) = 0) := (by have := HL0.out; omega); simpa using h9
          have lx2 := HF.out.c 0 rfl
          refine kS fun K hK => ?_
          refine sq 12 [(true, 0), (true, 1), (true, 2), (true, 3), (true, 4), (true, 5), (true, 6), (true, 7), (true, 8), (true, 9), (true, 10), (true, 11)] fun T hT => ?_
          iterate 5 refine tk ?_
          refine ck Tryz.call55 (fun w' hw => dround_w (a) A 0 false _ (HW4.out HL0.out) (by omega) (by omega) om) ?_
          iterate 3 refine tk ?_
          refine ck Tryz.call35 (fun w' hw => worksd_any _ (Lib.hid (HT.out.gr (Gr.trans HB.out hw)))) ?_
          iterate 2 refine tk ?_
          refine nlS hT HF fun vw9 HG => ?_
          clear hT T HF lx2 HB
          go_wp2
          refine hK.out _ _ ?_; clear hK K
          show Code.wp _ _ _ _ _
          refine fH ((HG.out).er 0) fun Wx16 HF => ?_
          clear HG
          clear hlz
          refine wp_ret ?_
          try simp only [Exit.then, Exit.inBlock]
          exact bodyPost_ret (v := .bool true) (by simp [results, Tryz.results11, go_sem]) rfl ⟨rfl, HF.out.1⟩

theorem rounds_law (n d k : Int) (w : World) (h1 : -9223372036854775808 ≤ n) (h2 : n ≤ 9223372036854775807) (h3 : 0 ≤ d) (h4 : d ≤ 4294967295) (k1 : -32768 ≤ k) (k2 : k ≤ 32767) (HT : Hid (Tab w)) :
    Calls Tryz.prog 11 #[.agg #[.int .i64 n, .int .u32 d], .int .i16 k] w fun e w' => e = .returned (.bool true) ∧ Below w.heap.size w w' := by
  obtain ⟨r, hr, hr2⟩ : ∃ r : Nat, Int.tmod d 200 = (r : Int) ∧ r ≤ 199 := ⟨(d % 200).toNat, by rw [Int.tmod_eq_emod_of_nonneg h3]; omega, by omega⟩
  have hsa : sz ((n : Rat) / (((r : Int) + 1 : Int) : Rat)) ≤ 4 := sz_quot n ((r : Int) + 1) h1 h2 (by omega) (by omega)
  obtain ⟨a, ha⟩ : ∃ a, (n : Rat) / (((r : Int) + 1 : Int) : Rat) = a := ⟨_, rfl⟩
  rw [ha] at hsa
  have hsb : sz (a + ((k : Int) : Rat)) ≤ 8 := by have e1 := sz_add a ((k : Int) : Rat); have e2 := sz_int64 (n := k) (by omega) (by omega); omega
  rcases cyc_cases a.den with ⟨hc, _⟩ | ⟨hc, hl⟩
  · exact roundsd_far n d k r a _ _ w h1 h2 h3 h4 k1 k2 (Lib.hid hr) hr2 (Lib.hid ha) hsa (Lib.hid rfl) hsb (Lib.hid rfl) (Lib.hid hc) (Lib.hid (by rw [den_addi]; exact hc)) (Lib.hid (by rw [Rat.neg_den]; exact hc)) HT
  · exact roundsd_ok n d k r a _ _ (cya a.den) (cyl a.den) w h1 h2 h3 h4 k1 k2 (Lib.hid hr) hr2 (Lib.hid ha) hsa (Lib.hid rfl) hsb (Lib.hid rfl) (Lib.hid hc) (Lib.hid (by rw [den_addi]; exact hc)) (Lib.hid (by rw [Rat.neg_den]; exact hc)) (by omega) (by omega)
      (Lib.hid (decide_eq_true ((rwz_den _ _ _).2 (cyc_1 a.den_pos hl)))) (Lib.hid (fun B hB => decide_eq_false (fun h => cyc_2 a.den_pos hl hB ((rwz_den _ _ _).1 h)))) (Lib.hid (fun i hi hj => decide_eq_false (fun h => cyc_3 a.den_pos hl (by omega) hj ((rwz_den _ _ _).1 h)))) (Lib.hid (fun h0 => decide_eq_false (fun h => cyc_4 a.den_pos hl h0 ((rwz_den _ _ _).1 h)))) HT

end Go.Proofs.YtgdibedgjndcoaaGreatDoor
