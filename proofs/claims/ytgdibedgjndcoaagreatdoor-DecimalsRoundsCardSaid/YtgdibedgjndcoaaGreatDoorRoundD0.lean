
/- gussetlaw04.round. -/
import Derived.Test.YtgdibedgjndcoaaGreatDoorBtwD0
namespace Go.Proofs.YtgdibedgjndcoaaGreatDoor
open Go.RowKit
set_option linter.unusedSimpArgs false
set_option linter.unusedVariables false
attribute [local go_sem ↓] Go.wp_at_zero Go.wp_at_succ
attribute [local go_sem ↓] eq_nat eq_nat_zero eq_int
/-- a times 10^m, times 10^n - 1 if n is positive -/
def rwz (a : Rat) (m n : Nat) : Rat := if n = 0 then a * (10 : Rat) ^ m else a * (10 : Rat) ^ m * ((10 : Rat) ^ n - 1)
theorem sz_ten {k : Nat} (h : k ≤ 101) : sz ((10 : Rat) ^ k) ≤ 12 := by
  refine sz_of ?_ ?_
  · rw [Rat.num_pow, show (10 : Rat).num = ((10 : Nat) : Int) from rfl, ← Int.natCast_pow, Int.natAbs_natCast]; exact wl_ten h
  · rw [Rat.den_pow, show (10 : Rat).den = 1 from rfl, Nat.one_pow]; exact Nat.le_trans (wl_small (by decide)) (by decide)

set_option maxRecDepth 20000 in
set_option maxHeartbeats 4000000 in
theorem dround_w0 (a t : Rat) (m n : Nat) (b : Bool) (w : World) (HT1 : Hid ((10 : Rat) ^ m = t)) (hst : sz t ≤ 12) (HB : Hid (decide ((rwz a m n).den = 1) = b)) (hm : m ≤ 101) (hn : n ≤ 101) (hs : sz a ≤ 400) :
    Calls Tryz.prog 55 #[(Value.agg #[.int .u64 ((lo (Int.natAbs ((a).num)) : Nat) : Int), .string (bg (Int.natAbs ((a).num))), .bool (decide (((a).num) < 0)), .int .u64 ((lo ((a).den - 1) : Nat) : Int), .string (bg ((a).den - 1))]), .int .i64 (((m : Nat) : Int)), .int .i64 (((n : Nat) : Int))] w fun e w' => e = .returned ((.bool b)) ∧ Below w.heap.size w w' := by
  go_enter Tryz.func55, Tryz.ntmps55
  have HF := Lib.hid (hp0 w)
  refine kS fun K hK => ?_
  refine wp_region_lit ?_
  go_wp2
  refine hK.out _ _ ?_; clear hK K
  show Code.wp _ _ _ _ _
  refine fH ((HF.out).al (b := w.heap.size) (by first | rfl | simp) (by decide)) fun Wx0 HG => ?_
  clear HF; have HF := HG; clear HG
  have HZ1 : Hid (((10 : Int) : Rat) = (10 : Rat)) := Lib.hid (by decide +kernel)
  have su1 : sz ((10 : Rat)) ≤ 2 := sz_of (wl_le.2 (by decide +kernel)) (wl_le.2 (by decide +kernel))
  have HZ2 : Hid ((10 : Rat) ^ m = t) := Lib.hid (HT1.out)
  have su2 : sz (t) ≤ 12 := by have e := HZ2.out; first | omega | (rw [← e]; exact sz_pow (by rw [show nb ((10 : Rat)).num.natAbs = 4 from by decide +kernel]; omega) (by rw [show nb ((10 : Rat)).den = 1 from by decide +kernel]; omega))
  refine kS fun K hK => ?_
  refine sq 6 [(true, 0), (true, 1), (true, 2), (true, 3), (true, 4), (true, 5)] fun T hT => ?_
  refine ck Tryz.call54 (fun w' hw => fint_any (10) (10 : Rat) _ HZ1.out om om) ?_
  refine tk ?_
  refine ck Tryz.call82 (fun w' hw => fpow_ok (10 : Rat) (t) m _ HZ2.out (by omega) (by rw [show nb ((10 : Rat)).num.natAbs = 4 from by decide +kernel]; omega) (by rw [show nb ((10 : Rat)).den = 1 from by decide +kernel]; omega) om) ?_
  iterate 3 refine tk ?_
  refine nlS hT HF fun vw1 HG => ?_
  clear hT T HF
  go_wp2
  refine hK.out _ _ ?_; clear hK K
  show Code.wp _ _ _ _ _
  refine fH ((HG.out).al (b := vw1.heap.size) (by first | rfl | simp) (by decide)) fun Wx1 HF => ?_
  clear HG
  generalize vw1.heap.size = gx2 at *
  obtain ⟨u3, HZ3⟩ : ∃ z, Hid ((a) * (t) = z) := ⟨_, Lib.hid rfl⟩
  have su3 : sz (u3) ≤ 412 := by rw [← HZ3.out]; have := sz_mul (a) (t); omega
  have lx0 := HF.out.c 0 rfl
  have lx2 := HF.out.c 1 rfl
  refine kS fun K hK => ?_
  refine sq 3 [(true, 0), (true, 1), (true, 2)] fun T hT => ?_
  iterate 2 refine tk ?_
  refine ck Tryz.call59 (fun w' hw => fmul_any (a) (t) (u3) _ HZ3.out om om) ?_
  refine nlS hT HF fun vw2 HG => ?_
  clear hT T HF lx0 lx2
  have lx0 := HG.out.c 0 rfl; have fx0 := HG.out.f 0 rfl
  have r0 := Gr.refl vw2
  go_wp2
  refine hK.out _ _ ?_; clear hK K
  show Code.wp _ _ _ _ _
  clear r0 lx0 fx0
  refine fH (((((HG.out).put2 0 0 rfl).put2 0 2 rfl).put 0 4 _ rfl).er 1) fun Wx2 HF => ?_
  clear HG
  refine wp_seq ?_
  rcases Nat.eq_zero_or_pos n with hn0 | hn0
  · have HB1 : Hid (decide ((a * t).den = 1) = b) := Lib.hid (by have e := HB.out; unfold rwz at e; rw [if_pos hn0, HT1.out] at e; exact e)
    have HN := Lib.hid hn0
    clear hn0
    have hng : ¬ 0 < n := by have := HN.out; omega
    refine kS fun K hK => ?_
    refine sq 2 [(true, 0), (true, 1)] fun T hT => ?_
    iterate 2 refine tk ?_
    refine nlS hT HF fun vw3 HG => ?_
    clear hT T HF
    go_wp2
    refine hK.out _ _ ?_; clear hK K
    show Code.wp _ _ _ _ _
    have HF := HG; clear HG
    clear hng
    refine wp_cond_false (by rfl) ?_
    refine wp_skip ?_
    show Code.wp _ _ _ _ _
    have lx0 := HF.out.c 0 rfl
    refine kS fun K hK => ?_
    refine sq 3 [(true, 0), (true, 1), (true, 2)] fun T hT => ?_
    refine tk ?_
    refine ck Tryz.call49 (fun w' hw => fiswhole_any (u3) b _ (by simp only [← HZ3.out]; exact HB1.out)) ?_
    refine tk ?_
    refine nlS hT HF fun vw4 HG => ?_
    clear hT T HF lx0
    go_wp2
    refine hK.out _ _ ?_; clear hK K
    show Code.wp _ _ _ _ _
    refine fH ((HG.out).er 0) fun Wx6 HF => ?_
    clear HG
    refine wp_ret ?_
    try simp only [Exit.then, Exit.inBlock]
    exact bodyPost_ret (v := .bool (b)) (by simp [results, Tryz.results55, go_sem]) rfl ⟨rfl, HF.out.1⟩
  · obtain ⟨u, HU⟩ : ∃ u, Hid ((10 : Rat) ^ n = u) := ⟨_, Lib.hid rfl⟩
    have hsu : sz u ≤ 12 := by rw [← HU.out]; exact sz_ten hn
    have HB1 : Hid (decide ((a * t * (u - (1 : Rat))).den = 1) = b) := Lib.hid (by have e := HB.out; unfold rwz at e; rw [if_neg (by omega), HT1.out, HU.out] at e; exact e)
    have HN := Lib.hid hn0
    clear hn0
    have hng : 0 < n := by have := HN.out; omega
    refine kS fun K hK => ?_
    refine sq 2 [(true, 0), (true, 1)] fun T hT => ?_
    iterate 2 refine tk ?_
    refine nlS hT HF fun vw3 HG => ?_
    clear hT T HF
    go_wp2
    refine hK.out _ _ ?_; clear hK K
    show Code.wp _ _ _ _ _
    have HF := HG; clear HG
    clear hng
    refine wp_cond_true (by rfl) ?_
    have HZ4 : Hid (((10 : Int) : Rat) = (10 : Rat)) := Lib.hid (by decide +kernel)
    have su4 : sz ((10 : Rat)) ≤ 2 := sz_of (wl_le.2 (by decide +kernel)) (wl_le.2 (by decide +kernel))
    have HZ5 : Hid ((10 : Rat) ^ n = u) := Lib.hid (HU.out)
    have su5 : sz (u) ≤ 12 := by have e := HZ5.out; first | omega | (rw [← e]; exact sz_pow (by rw [show nb ((10 : Rat)).num.natAbs = 4 from by decide +kernel]; omega) (by rw [show nb ((10 : Rat)).den = 1 from by decide +kernel]; omega))
    refine kS fun K hK => ?_
    refine sq 6 [(true, 0), (true, 1), (true, 2), (true, 3), (true, 4), (true, 5)] fun T hT => ?_
    refine ck Tryz.call54 (fun w' hw => fint_any (10) (10 : Rat) _ HZ4.out om om) ?_
    refine tk ?_
    refine ck Tryz.call82 (fun w' hw => fpow_ok (10 : Rat) (u) n _ HZ5.out (by omega) (by rw [show nb ((10 : Rat)).num.natAbs = 4 from by decide +kernel]; omega) (by rw [show nb ((10 : Rat)).den = 1 from by decide +kernel]; omega) om) ?_
    iterate 3 refine tk ?_
    refine nlS hT HF fun vw4 HG => ?_
    clear hT T HF
    go_wp2
    refine hK.out _ _ ?_; clear hK K
    show Code.wp _ _ _ _ _
    refine fH ((HG.out).al (b := vw4.heap.size) (by first | rfl | simp) (by decide)) fun Wx4 HF => ?_
    clear HG
    generalize vw4.heap.size = gx3 at *
    have HZ6 : Hid (((1 : Int) : Rat) = (1 : Rat)) := Lib.hid (by decide +kernel)
    have su6 : sz ((1 : Rat)) ≤ 2 := sz_of (wl_le.2 (by decide +kernel)) (wl_le.2 (by decide +kernel))
    obtain ⟨u7, HZ7⟩ : ∃ z, Hid ((u) - (1 : Rat) = z) := ⟨_, Lib.hid rfl⟩
    have su7 : sz (u7) ≤ 15 := by rw [← HZ7.out]; have := sz_sub (u) (1 : Rat); omega
    obtain ⟨u8, HZ8⟩ : ∃ z, Hid ((u3) * (u7) = z) := ⟨_, Lib.hid rfl⟩
    have su8 : sz (u8) ≤ 427 := by rw [← HZ8.out]; have := sz_mul (u3) (u7); omega
    have lx0 := HF.out.c 0 rfl
    have lx3 := HF.out.c 1 rfl
    refine kL fun K hK => ?_
    refine pd 5 [(true, 0), (true, 1), (true, 2), (true, 3), (true, 4)] fun T hT => ?_
    iterate 2 refine tk ?_
    refine ck Tryz.call54 (fun w' hw => fint_any (1) (1 : Rat) _ HZ6.out om om) ?_
    refine ck Tryz.call58 (fun w' hw => fsub_any (u) (1 : Rat) (u7) _ HZ7.out om om) ?_
    refine ck Tryz.call59 (fun w' hw => fmul_any (u3) (u7) (u8) _ HZ8.out om om) ?_
    refine nlD hT HF fun vw5 HG => ?_
    clear hT T HF lx0 lx3
    have lx0 := HG.out.c 0 rfl; have fx0 := HG.out.f 0 rfl
    have r0 := Gr.refl vw5
    go_wp2
    refine hK.out _ _ ?_; clear hK K
    show Code.wp _ _ _ _ _
    clear r0 lx0 fx0
    refine fH (((((HG.out).put2 0 0 rfl).put2 0 2 rfl).put 0 4 _ rfl).er 1) fun Wx5 HF => ?_
    clear HG
    have lx0 := HF.out.c 0 rfl
    refine kS fun K hK => ?_
    refine sq 3 [(true, 0), (true, 1), (true, 2)] fun T hT => ?_
    refine tk ?_
    refine ck Tryz.call49 (fun w' hw => fiswhole_any (u8) b _ (by simp only [← HZ8.out, ← HZ7.out, ← HZ3.out]; exact HB1.out)) ?_
    refine tk ?_
    refine nlS hT HF fun vw6 HG => ?_
    clear hT T HF lx0
    go_wp2
    refine hK.out _ _ ?_; clear hK K
    show Code.wp _ _ _ _ _
    refine fH ((HG.out).er 0) fun Wx6 HF => ?_
    clear HG
    refine wp_ret ?_
    try simp only [Exit.then, Exit.inBlock]
    exact bodyPost_ret (v := .bool (b)) (by simp [results, Tryz.results55, go_sem]) rfl ⟨rfl, HF.out.1⟩

theorem dround_w (a : Rat) (m n : Nat) (b : Bool) (w : World) (hb : decide ((rwz a m n).den = 1) = b) (hm : m ≤ 101) (hn : n ≤ 101) (hs : sz a ≤ 400) :
    Calls Tryz.prog 55 #[(Value.agg #[.int .u64 ((lo (Int.natAbs ((a).num)) : Nat) : Int), .string (bg (Int.natAbs ((a).num))), .bool (decide (((a).num) < 0)), .int .u64 ((lo ((a).den - 1) : Nat) : Int), .string (bg ((a).den - 1))]), .int .i64 ((m : Nat) : Int), .int .i64 ((n : Nat) : Int)] w fun e w' => e = .returned (.bool b) ∧ Below w.heap.size w w' :=
  dround_w0 a _ m n b w (Lib.hid rfl) (sz_ten hm) (Lib.hid hb) hm hn hs

end Go.Proofs.YtgdibedgjndcoaaGreatDoor
