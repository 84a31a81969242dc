
/- gussetlaw04.power. -/
import Derived.Test.YtgdibedgjndcoaaGreatDoorDecW
import Derived.Test.YtgdibedgjndcoaaGreatDoorDecP
namespace Go.Proofs.YtgdibedgjndcoaaGreatDoor
open Go.RowKit
set_option linter.unusedSimpArgs false
set_option linter.unusedVariables false
attribute [local go_sem ↓] Go.wp_at_zero Go.wp_at_succ
attribute [local go_sem ↓] eq_nat eq_nat_zero eq_int
theorem sz_pow {a : Rat} {k : Nat} (h1 : k * nb a.num.natAbs ≤ 262144) (h2 : k * nb a.den ≤ 262144) : sz (a ^ k) ≤ 8192 :=
  sz_of (by rw [Rat.num_pow, Int.natAbs_pow]; exact wl_pow _ _ h1) (by rw [Rat.den_pow]; exact wl_pow _ _ h2)
theorem sz_step {k : Nat} (h : k ≤ 101) : sz ((1 / 10 : Rat) ^ k) ≤ 12 := by
  have e1 : ((1 / 10 : Rat) ^ k).num = 1 := by rw [Rat.num_pow, show (1 / 10 : Rat).num = 1 from by decide +kernel, Int.one_pow]
  have e2 : ((1 / 10 : Rat) ^ k).den = 10 ^ k := by rw [Rat.den_pow, show (1 / 10 : Rat).den = 10 from by decide +kernel]
  refine sz_of ?_ ?_
  · rw [e1]; exact Nat.le_trans (wl_small (by decide)) (by decide)
  · rw [e2]; exact wl_ten h

theorem qabs_lo {x a : Rat} (h : x < a) : qabs (x - a) = a - x := by
  unfold qabs; rw [if_pos (by grind)]; grind
theorem qabs_hi {x a : Rat} (h : a < x) : qabs (x - a) = x - a := by
  unfold qabs; rw [if_neg (by grind)]
theorem two_step (k : Nat) : (2 : Rat) * ((1 / 10 : Rat)) ^ k ≠ 0 := fun e => by
  have := step_pos k
  generalize ((1 / 10 : Rat)) ^ k = s at *
  grind

set_option maxRecDepth 20000 in
set_option maxHeartbeats 4000000 in
theorem dpower_any (k : Nat) (z : Rat) (w : World) (HZ : Hid (((1 / 10 : Rat)) ^ k = z)) (hk : k ≤ 100) :
    Calls Tryz.prog 56 #[.int .i64 (((k : Nat) : Int))] w fun e w' => e = .returned (.agg #[.int .u64 ((lo (Int.natAbs ((z).num)) : Nat) : Int), .string (bg (Int.natAbs ((z).num))), .bool (decide (((z).num) < 0)), .int .u64 ((lo ((z).den - 1) : Nat) : Int), .string (bg ((z).den - 1))]) ∧ Below w.heap.size w w' := by
  go_enter Tryz.func56, Tryz.ntmps56
  have HF := Lib.hid (hp0 w)
  refine kS fun K hK => ?_
  refine wp_region_lit ?_
  go_wp2
  refine hK.out _ _ ?_; clear hK K
  show Code.wp _ _ _ _ _
  refine fH ((HF.out).al (b := w.heap.size) (by first | rfl | simp) (by decide)) fun Wx0 HG => ?_
  clear HF; have HF := HG; clear HG
  have HZ1 : Hid (((1 : Int) : Rat) / ((10 : Int) : Rat) = (1/10 : Rat)) := Lib.hid (by decide +kernel)
  have su1 : sz ((1/10 : Rat)) ≤ 4 := sz_of (wl_le.2 (by decide +kernel)) (wl_le.2 (by decide +kernel))
  have HZ2 : Hid ((1/10 : Rat) ^ k = z) := Lib.hid (HZ.out)
  have su2 : sz (z) ≤ 8192 := by have e := HZ2.out; first | omega | (rw [← e]; exact sz_pow (by rw [show nb ((1 / 10 : Rat)).num.natAbs = 1 from by decide +kernel]; omega) (by rw [show nb ((1 / 10 : Rat)).den = 4 from by decide +kernel]; omega))
  refine kS fun K hK => ?_
  refine sq 6 [(true, 0), (true, 1), (true, 2), (true, 3), (true, 4), (true, 5)] fun T hT => ?_
  refine ck Tryz.call126 (fun w' hw => ofd_any (1) (10) (1/10 : Rat) _ (Lib.hid HZ1.out) (by decide) om om om om) ?_
  refine tk ?_
  refine ck Tryz.call82 (fun w' hw => fpow_ok (1/10 : Rat) (z) k _ HZ2.out (by omega) (by rw [show nb ((1 / 10 : Rat)).num.natAbs = 1 from by decide +kernel]; omega) (by rw [show nb ((1 / 10 : Rat)).den = 4 from by decide +kernel]; omega) om) ?_
  iterate 3 refine tk ?_
  refine nlS hT HF fun vw1 HG => ?_
  clear hT T HF
  go_wp2
  refine hK.out _ _ ?_; clear hK K
  show Code.wp _ _ _ _ _
  refine fH ((HG.out).al (b := vw1.heap.size) (by first | rfl | simp) (by decide)) fun Wx1 HF => ?_
  clear HG
  generalize vw1.heap.size = gx2 at *
  have lx2 := HF.out.c 1 rfl
  refine kS fun K hK => ?_
  refine sq 1 [(true, 0)] fun T hT => ?_
  refine tk ?_
  refine nlS hT HF fun vw2 HG => ?_
  clear hT T HF lx2
  have lx0 := HG.out.c 0 rfl; have fx0 := HG.out.f 0 rfl
  have r0 := Gr.refl vw2
  go_wp2
  refine hK.out _ _ ?_; clear hK K
  show Code.wp _ _ _ _ _
  clear r0 lx0 fx0
  refine fH (((((HG.out).put2 0 0 rfl).put2 0 2 rfl).put 0 4 _ rfl).er 1) fun Wx2 HF => ?_
  clear HG
  refine wp_ret ?_
  try simp only [Exit.then, Exit.inBlock]
  have lx0 := HF.out.c 0 rfl
  have r0 := Gr.refl Wx2
  exact bodyPost_ret (v := .agg #[.int .u64 ((lo (Int.natAbs ((z).num)) : Nat) : Int), .string (bg (Int.natAbs ((z).num))), .bool (decide (((z).num) < 0)), .int .u64 ((lo ((z).den - 1) : Nat) : Int), .string (bg ((z).den - 1))]) (by simp [results, Tryz.results56, go_sem, lx0 _ r0]) rfl ⟨rfl, HF.out.1⟩

end Go.Proofs.YtgdibedgjndcoaaGreatDoor
