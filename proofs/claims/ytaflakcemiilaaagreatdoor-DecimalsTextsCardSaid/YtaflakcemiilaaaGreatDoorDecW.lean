
/- gussetlaw04: works. -/
import Derived.Test.YtaflakcemiilaaaGreatDoorDecR
import Derived.Test.YtaflakcemiilaaaGreatDoorDecC
import Derived.Test.YtaflakcemiilaaaGreatDoorLawQ0
import Derived.Test.YtaflakcemiilaaaGreatDoorEqQ
import Derived.Test.YtaflakcemiilaaaGreatDoorPJ
set_option linter.unusedVariables false
set_option linter.unusedSimpArgs false
namespace Go.Proofs.YtaflakcemiilaaaGreatDoor
open Go.RowKit
attribute [local go_sem ↓] Go.wp_at_zero Go.wp_at_succ
attribute [local go_sem ↓] eq_nat eq_nat_zero eq_int
set_option maxRecDepth 20000 in
set_option maxHeartbeats 4000000 in
theorem dtext_bad0 (a : Rat) (n way c : Int) (w : World) (HC : Hid (rcode n way = c)) (hc0 : ¬ c = 0) (hs : sz a ≤ 900) :
    Calls Tryz.prog 57 #[(Value.agg #[.int .u64 ((lo (Int.natAbs ((a).num)) : Nat) : Int), .string (bg (Int.natAbs ((a).num))), .bool (decide (((a).num) < 0)), .int .u64 ((lo ((a).den - 1) : Nat) : Int), .string (bg ((a).den - 1))]), .int .i64 (n), .int .i64 (way)] w fun e w' => e = .returned ((.tuple #[.string ⟨#[]⟩, .int .i64 c])) ∧ Below w.heap.size w w' := by
  go_enter Tryz.func57, Tryz.ntmps57
  have HF := Lib.hid (hp0 w)
  refine kS fun K hK => ?_
  refine wp_region_lit ?_
  go_wp2
  refine kO hK ?_; clear hK K
  obtain ⟨W1, HW1⟩ : ∃ W, Hid (((w.alloc (.cells #[.int .u64 ((lo (Int.natAbs ((a).num)) : Nat) : Int), .string (bg (Int.natAbs ((a).num))), .bool (decide (((a).num) < 0)), .int .u64 ((lo ((a).den - 1) : Nat) : Int), .string (bg ((a).den - 1))] 36)).alloc (.cells #[.int .i64 (n)] 3)) = W) := ⟨_, Lib.hid rfl⟩
  rw [HW1.out]
  have BX0 : Hid (Bx W1 (w.heap.size) 36 #[.int .u64 ((lo (Int.natAbs ((a).num)) : Nat) : Int), .string (bg (Int.natAbs ((a).num))), .bool (decide (((a).num) < 0)), .int .u64 ((lo ((a).den - 1) : Nat) : Int), .string (bg ((a).den - 1))]) := Lib.hid (by rw [← HW1.out]; exact (Bx.at rfl).alloc _)
  have BX1 : Hid (Bx W1 (w.heap.size + 1) 3 #[.int .i64 (n)]) := Lib.hid (by rw [← HW1.out]; exact Bx.at (by simp))
  have HBW : Hid (Below w.heap.size w W1) := Lib.hid (by rw [← HW1.out]; exact ((Below.refl _ _).alloc (Nat.le_refl _) _).alloc (by simp) _)
  clear HF; have HF := Lib.hid (hp0 W1); clear HW1
  have lx0 := (BX0.out.gr HF.out.1).cells
  have lx1 := (BX1.out.gr HF.out.1).cells
  refine kS fun K hK => ?_
  refine sq 7 [(true, 0), (true, 1), (true, 2), (true, 3), (true, 4), (true, 5), (true, 6)] fun T hT => ?_
  iterate 3 refine tk ?_
  refine ck Tryz.call156 (fun w' hw => drnd_bad (a) (n) (way) (c) _ (HC.out) (hc0) om) ?_
  iterate 3 refine tk ?_
  refine nlS hT HF fun vw1 HG => ?_
  clear hT T HF lx0 lx1
  go_wp2
  refine kO hK ?_; clear hK K
  refine fH ((HG.out).aL (vw1.heap.size)) fun Wx1 HF => ?_
  clear HG
  generalize vw1.heap.size = gx3 at *
  refine wp_seq ?_
  have hd1 : ((c) == (0)) = false := by have : ¬ (c = 0) := (ok); simpa using this
  have hd2 : ((c) != (0)) = true := by have : ¬ (c = 0) := (ok); simpa using this
  refine kS fun K hK => ?_
  refine sq 2 [(true, 0), (true, 1)] fun T hT => ?_
  iterate 2 refine tk ?_
  refine nlS hT HF fun vw2 HG => ?_
  clear hT T HF
  go_wp2
  refine kO hK ?_; clear hK K
  have HF := HG; clear HG
  clear hd1 hd2
  refine wp_cond_true (by rfl) ?_
  refine kS fun K hK => ?_
  refine sq 3 [(true, 0), (true, 1), (true, 2)] fun T hT => ?_
  iterate 3 refine tk ?_
  refine nlS hT HF fun vw3 HG => ?_
  clear hT T HF
  go_wp2
  refine kO hK ?_; clear hK K
  have HF := HG; clear HG
  refine wp_ret ?_
  try simp only [Exit.then, Exit.inBlock]
  exact bodyPost_ret (v := .tuple #[.string ⟨#[]⟩, .int .i64 (c)]) (by simp [results, Tryz.results57, go_sem]) rfl ⟨rfl, HBW.out.trans (HF.out.1.mono HBW.out.size)⟩
theorem dtext_bad (a : Rat) (n way c : Int) (w : World) (hc : rcode n way = c) (h0 : ¬ c = 0) (hs : sz a ≤ 900) :
    Calls Tryz.prog 57 #[(Value.agg #[.int .u64 ((lo (Int.natAbs ((a).num)) : Nat) : Int), .string (bg (Int.natAbs ((a).num))), .bool (decide (((a).num) < 0)), .int .u64 ((lo ((a).den - 1) : Nat) : Int), .string (bg ((a).den - 1))]), .int .i64 n, .int .i64 way] w fun e w' => e = .returned (.tuple #[.string ⟨#[]⟩, .int .i64 c]) ∧ Below w.heap.size w w' := dtext_bad0 a n way c w (Lib.hid hc) h0 hs
set_option maxRecDepth 20000 in
set_option maxHeartbeats 4000000 in
theorem ofd_any (n d : Int) (z : Rat) (w : World) (HZ : Hid ((n : Rat) / (d : Rat) = z)) (hd : d ≠ 0) (h1 : -9223372036854775808 ≤ n) (h2 : n ≤ 9223372036854775807) (h3 : -9223372036854775808 ≤ d) (h4 : d ≤ 9223372036854775807) :
    Calls Tryz.prog 151 #[.int .i64 (n), .int .i64 (d)] w fun e w' => e = .returned (.agg #[.int .u64 ((lo (Int.natAbs ((z).num)) : Nat) : Int), .string (bg (Int.natAbs ((z).num))), .bool (decide (((z).num) < 0)), .int .u64 ((lo ((z).den - 1) : Nat) : Int), .string (bg ((z).den - 1))]) ∧ Below w.heap.size w w' := by
  go_enter Tryz.func151, Tryz.ntmps151
  have HF := Lib.hid (hp0 w)
  refine kS fun K hK => ?_
  refine wp_region_lit ?_
  go_wp2
  refine kO hK ?_; clear hK K
  refine fH ((HF.out).aL (w.heap.size)) fun Wx0 HG => ?_
  clear HF; have HF := HG; clear HG
  have HZ1 : Hid (((n : Int) : Rat) / ((d : Int) : Rat) = z) := Lib.hid (HZ.out)
  have su1 : sz (z) ≤ 4 := by have e := HZ1.out; first | omega | (rw [← e]; exact sz_quot (n) (d) om om om om)
  refine kS fun K hK => ?_
  refine sq 6 [(true, 0), (true, 1), (true, 2), (true, 3), (true, 4), (true, 5)] fun T hT => ?_
  iterate 2 refine tk ?_
  refine ck Tryz.call94 (fun w' hw => fof_any (n) (d) (z) _ HZ1.out (by first | decide | omega) om om om om) ?_
  iterate 3 refine tk ?_
  refine nlS hT HF fun vw1 HG => ?_
  clear hT T HF
  go_wp2
  refine kO hK ?_; clear hK K
  refine fH ((HG.out).aL (vw1.heap.size)) fun Wx1 HF => ?_
  clear HG
  generalize vw1.heap.size = gx2 at *
  have lx2 := HF.out.c 1 rfl
  refine kS fun K hK => ?_
  refine sq 1 [(true, 0)] fun T hT => ?_
  refine tk ?_
  refine nlS hT HF fun vw2 HG => ?_
  clear hT T HF lx2
  have lx0 := HG.out.c 0 rfl; have fx0 := HG.out.f 0 rfl
  have r0 := Gr.refl vw2
  go_wp2
  refine kO hK ?_; clear hK K
  clear r0 lx0 fx0
  refine fH (((((HG.out).put2 0 0 rfl).put2 0 2 rfl).put 0 4 _ rfl).er 1) fun Wx2 HF => ?_
  clear HG
  refine wp_ret ?_
  try simp only [Exit.then, Exit.inBlock]
  have lx0 := HF.out.c 0 rfl
  have r0 := Gr.refl Wx2
  exact bodyPost_ret (v := .agg #[.int .u64 ((lo (Int.natAbs ((z).num)) : Nat) : Int), .string (bg (Int.natAbs ((z).num))), .bool (decide (((z).num) < 0)), .int .u64 ((lo ((z).den - 1) : Nat) : Int), .string (bg ((z).den - 1))]) (by simp [results, Tryz.results151, go_sem, lx0 _ r0]) rfl ⟨rfl, HF.out.1⟩
set_option maxRecDepth 20000 in
set_option maxHeartbeats 4000000 in
theorem ltext_any (a : Rat) (k : Nat) (way : Int) (r : ByteArray) (w : World) (HR : Hid (dtx (rnd way (a * (((10 ^ k : Nat) : Int) : Rat))) k = r)) (hw1 : 1 ≤ way) (hw2 : way ≤ 3) (hk : k ≤ 100) (hs : sz a ≤ 900) (HT : Hid (Tab w)) :
    Calls Tryz.prog 152 #[(Value.agg #[.int .u64 ((lo (Int.natAbs ((a).num)) : Nat) : Int), .string (bg (Int.natAbs ((a).num))), .bool (decide (((a).num) < 0)), .int .u64 ((lo ((a).den - 1) : Nat) : Int), .string (bg ((a).den - 1))]), .int .i64 (((k : Nat) : Int)), .int .i64 (way)] w fun e w' => e = .returned ((.string r)) ∧ Below w.heap.size w w' := by
  go_enter Tryz.func152, Tryz.ntmps152
  have HF := Lib.hid (hp0 w)
  refine kS fun K hK => ?_
  refine wp_region_lit ?_
  go_wp2
  refine kO hK ?_; clear hK K
  refine fH ((HF.out).aL (w.heap.size)) fun Wx0 HG => ?_
  clear HF; have HF := HG; clear HG
  have HB := HPb HF
  have lx0 := HF.out.c 0 rfl
  refine kS fun K hK => ?_
  refine sq 9 [(true, 0), (true, 1), (true, 2), (true, 3), (true, 4), (true, 5), (true, 6), (true, 7), (true, 8)] fun T hT => ?_
  iterate 3 refine tk ?_
  refine ck Tryz.call57 (fun w' hw => dtext (way) (a) k r _ (HR.out) (by omega) (by omega) (by omega) om (Lib.hid (HT.out.gr (Gr.trans HB.out hw)))) ?_
  iterate 5 refine tk ?_
  refine nlS hT HF fun vw1 HG => ?_
  clear hT T HF lx0 HB
  go_wp2
  refine kO hK ?_; clear hK K
  refine fH ((HG.out).er 0) fun Wx1 HF => ?_
  clear HG
  refine wp_seq ?_
  refine kS fun K hK => ?_
  refine sq 2 [(true, 0), (true, 1)] fun T hT => ?_
  iterate 2 refine tk ?_
  refine nlS hT HF fun vw2 HG => ?_
  clear hT T HF
  go_wp2
  refine kO hK ?_; clear hK K
  have HF := HG; clear HG
  refine wp_cond_false (by rfl) ?_
  refine wp_skip ?_
  show Code.wp _ _ _ _ _
  refine kS fun K hK => ?_
  refine sq 2 [(true, 0), (true, 1)] fun T hT => ?_
  iterate 2 refine tk ?_
  refine nlS hT HF fun vw3 HG => ?_
  clear hT T HF
  go_wp2
  refine kO hK ?_; clear hK K
  have HF := HG; clear HG
  refine wp_ret ?_
  try simp only [Exit.then, Exit.inBlock]
  exact bodyPost_ret (v := .string r) (by simp [results, Tryz.results152, go_sem]) rfl ⟨rfl, HF.out.1⟩
set_option maxRecDepth 20000 in
set_option maxHeartbeats 4000000 in
theorem dread_ok0 (s : ByteArray) (q : Rat) (w : World) (HN : Hid (dnum s = q)) (HC : Hid (dcode s = 0)) (hs : s.size ≤ 9223372036854775807) (hq : sz q ≤ 1000) (HT : Hid (Tab w)) :
    Calls Tryz.prog 154 #[.string s] w fun e w' => e = .returned ((.string (ftx q))) ∧ Below w.heap.size w w' := by
  go_enter Tryz.func154, Tryz.ntmps154
  have HF := Lib.hid (hp0 w)
  refine kS fun K hK => ?_
  refine wp_region_lit ?_
  go_wp2
  refine kO hK ?_; clear hK K
  refine fH (HF.out) fun Wx0 HG => ?_
  clear HF; have HF := HG; clear HG
  refine kS fun K hK => ?_
  refine sq 5 [(true, 0), (true, 1), (true, 2), (true, 3), (true, 4)] fun T hT => ?_
  refine tk ?_
  refine ck Tryz.call61 (fun w' hw => dparse s (q) (0) _ HN.out HC.out (by omega)) ?_
  iterate 3 refine tk ?_
  refine nlS hT HF fun vw1 HG => ?_
  clear hT T HF
  go_wp2
  refine kO hK ?_; clear hK K
  refine fH ((HG.out).aL (vw1.heap.size)) fun Wx1 HF => ?_
  clear HG
  generalize vw1.heap.size = gx1 at *
  refine wp_seq ?_
  refine kS fun K hK => ?_
  refine sq 2 [(true, 0), (true, 1)] fun T hT => ?_
  iterate 2 refine tk ?_
  refine nlS hT HF fun vw2 HG => ?_
  clear hT T HF
  go_wp2
  refine kO hK ?_; clear hK K
  have HF := HG; clear HG
  refine wp_cond_false (by rfl) ?_
  refine wp_skip ?_
  show Code.wp _ _ _ _ _
  have HB := HPb HF
  have lx1 := HF.out.c 0 rfl
  refine kS fun K hK => ?_
  refine sq 3 [(true, 0), (true, 1), (true, 2)] fun T hT => ?_
  refine tk ?_
  refine ck Tryz.call103 (fun w' hw => ftext_any (q) _ om (Lib.hid (HT.out.gr (Gr.trans HB.out hw)))) ?_
  refine tk ?_
  refine nlS hT HF fun vw3 HG => ?_
  clear hT T HF lx1 HB
  go_wp2
  refine kO hK ?_; clear hK K
  refine fH ((HG.out).er 0) fun Wx4 HF => ?_
  clear HG
  refine wp_ret ?_
  try simp only [Exit.then, Exit.inBlock]
  exact bodyPost_ret (v := .string (ftx (q))) (by simp [results, Tryz.results154, go_sem]) rfl ⟨rfl, HF.out.1⟩
theorem dread_ok (s t : ByteArray) (q : Rat) (w : World) (HN : Hid (dnum s = q)) (HC : Hid (dcode s = 0)) (HTX : Hid (ftx q = t)) (hs : s.size ≤ 9223372036854775807) (hq : sz q ≤ 1000) (HT : Hid (Tab w)) :
    Calls Tryz.prog 154 #[.string s] w fun e w' => e = .returned (.string t) ∧ Below w.heap.size w w' := HTX.out ▸ dread_ok0 s q w HN HC hs hq HT
set_option maxRecDepth 20000 in
set_option maxHeartbeats 4000000 in
theorem dread_no (s : ByteArray) (w : World) (HN : Hid (dnum s = 0)) (HC : Hid (dcode s = 4)) (hs : s.size ≤ 9223372036854775807) (HT : Hid (Tab w)) :
    Calls Tryz.prog 154 #[.string s] w fun e w' => e = .returned ((.string ⟨#[110, 111, 110, 101]⟩)) ∧ Below w.heap.size w w' := by
  go_enter Tryz.func154, Tryz.ntmps154
  have HF := Lib.hid (hp0 w)
  refine kS fun K hK => ?_
  refine wp_region_lit ?_
  go_wp2
  refine kO hK ?_; clear hK K
  refine fH (HF.out) fun Wx0 HG => ?_
  clear HF; have HF := HG; clear HG
  refine kS fun K hK => ?_
  refine sq 5 [(true, 0), (true, 1), (true, 2), (true, 3), (true, 4)] fun T hT => ?_
  refine tk ?_
  refine ck Tryz.call61 (fun w' hw => dparse s (0 : Rat) (4) _ HN.out HC.out (by omega)) ?_
  iterate 3 refine tk ?_
  refine nlS hT HF fun vw1 HG => ?_
  clear hT T HF
  go_wp2
  refine kO hK ?_; clear hK K
  refine fH ((HG.out).aL (vw1.heap.size)) fun Wx1 HF => ?_
  clear HG
  generalize vw1.heap.size = gx1 at *
  refine wp_seq ?_
  refine kS fun K hK => ?_
  refine sq 2 [(true, 0), (true, 1)] fun T hT => ?_
  iterate 2 refine tk ?_
  refine nlS hT HF fun vw2 HG => ?_
  clear hT T HF
  go_wp2
  refine kO hK ?_; clear hK K
  have HF := HG; clear HG
  refine wp_cond_true (by rfl) ?_
  refine kS fun K hK => ?_
  refine wp_region_lit ?_
  go_wp2
  refine kO hK ?_; clear hK K
  refine fH (HF.out) fun Wx3 HG => ?_
  clear HF; have HF := HG; clear HG
  refine wp_ret ?_
  try simp only [Exit.then, Exit.inBlock]
  exact bodyPost_ret (v := .string ⟨#[110, 111, 110, 101]⟩) (by simp [results, Tryz.results154, go_sem]) rfl ⟨rfl, HF.out.1⟩
set_option maxRecDepth 20000 in
set_option maxHeartbeats 4000000 in
theorem dcycles_any (q : Rat) (m n : Int) (w : World) (HC : Hid (cyc q.den = (m, n, 0))) (hs : sz q ≤ 900) :
    Calls Tryz.prog 155 #[(Value.agg #[.int .u64 ((lo (Int.natAbs ((q).num)) : Nat) : Int), .string (bg (Int.natAbs ((q).num))), .bool (decide (((q).num) < 0)), .int .u64 ((lo ((q).den - 1) : Nat) : Int), .string (bg ((q).den - 1))]), .int .i64 (m), .int .i64 (n)] w fun e w' => e = .returned ((.bool true)) ∧ Below w.heap.size w w' := by
  go_enter Tryz.func155, Tryz.ntmps155
  have HF := Lib.hid (hp0 w)
  refine kS fun K hK => ?_
  refine wp_region_lit ?_
  go_wp2
  refine kO hK ?_; clear hK K
  refine fH ((HF.out).aL (w.heap.size)) fun Wx0 HG => ?_
  clear HF; have HF := HG; clear HG
  have lx0 := HF.out.c 0 rfl
  refine kS fun K hK => ?_
  refine sq 9 [(true, 0), (true, 1), (true, 2), (true, 3), (true, 4), (true, 5), (true, 6), (true, 7), (true, 8)] fun T hT => ?_
  refine tk ?_
  refine ck Tryz.call63 (fun w' hw => cycle_any (q) (m) (n) (0) _ (HC.out) om) ?_
  iterate 7 refine tk ?_
  refine nlS hT HF fun vw1 HG => ?_
  clear hT T HF lx0
  go_wp2
  refine kO hK ?_; clear hK K
  refine fH ((HG.out).er 0) fun Wx1 HF => ?_
  clear HG
  refine kS fun K hK => ?_
  refine sq 13 [(true, 0), (true, 1), (true, 2), (true, 3), (true, 4), (true, 5), (true, 6), (true, 7), (true, 8), (true, 9), (true, 10), (true, 11), (true, 12)] fun T hT => ?_
  iterate 13 refine tk ?_
  refine nlS hT HF fun vw2 HG => ?_
  clear hT T HF
  go_wp2
  refine kO hK ?_; clear hK K
  have HF := HG; clear HG
  refine wp_ret ?_
  try simp only [Exit.then, Exit.inBlock]
  exact bodyPost_ret (v := .bool true) (by simp [results, Tryz.results155, go_sem]) rfl ⟨rfl, HF.out.1⟩
end Go.Proofs.YtaflakcemiilaaaGreatDoor

namespace Go.Proofs.YtaflakcemiilaaaGreatDoor
open Go.RowKit
attribute [local go_sem ↓] Go.wp_at_zero Go.wp_at_succ
attribute [local go_sem ↓] eq_nat eq_nat_zero eq_int
attribute [local go_sem ↓] eq_frac eq_frac_zero eq_nat eq_nat_zero
set_option maxRecDepth 100000 in
set_option maxHeartbeats 16000000 in
theorem worksd_any  (w : World)  (HT : Hid (Tab w)) :
    Calls Tryz.prog 55 #[] w fun e w' => e = .returned (.bool true) ∧ Below w.heap.size w w' := by
  go_enter Tryz.func55, Tryz.ntmps55
  have HF := Lib.hid (hp0 w)
  refine kS fun K hK => ?_
  refine wp_region_lit ?_
  go_wp2
  refine kO hK ?_; clear hK K
  refine fH (HF.out) fun Wx0 HG => ?_
  clear HF; have HF := HG; clear HG
  have HZ1 : Hid (((1 : Int) : Rat) / ((8 : Int) : Rat) = (1/8 : Rat)) := Lib.hid (by decide +kernel)
  have su1 : sz ((1/8 : Rat)) ≤ 4 := sz_of (wl_le.2 (by decide +kernel)) (wl_le.2 (by decide +kernel))
  refine kS fun K hK => ?_
  refine sq 1 [(true, 0)] fun T hT => ?_
  refine ck Tryz.call151 (fun w' hw => ofd_any (1) (8) (1/8 : Rat) _ (Lib.hid HZ1.out) (by decide) om om om om) ?_
  refine nlS hT HF fun vw1 HG => ?_
  clear hT T HF
  go_wp2
  refine kO hK ?_; clear hK K
  refine fH ((HG.out).aL (vw1.heap.size)) fun Wx1 HF => ?_
  clear HG
  generalize vw1.heap.size = gx1 at *
  refine wp_seq ?_
  have HB := HPb HF
  have HZ2 : Hid (((3 : Int) : Rat) / ((8 : Int) : Rat) = (3/8 : Rat)) := Lib.hid (by decide +kernel)
  have su2 : sz ((3/8 : Rat)) ≤ 4 := sz_of (wl_le.2 (by decide +kernel)) (wl_le.2 (by decide +kernel))
  have HZ3 : Hid (((-1 : Int) : Rat) / ((8 : Int) : Rat) = (-1/8 : Rat)) := Lib.hid (by decide +kernel)
  have su3 : sz ((-1/8 : Rat)) ≤ 4 := sz_of (wl_le.2 (by decide +kernel)) (wl_le.2 (by decide +kernel))
  have HZ4 : Hid (((-1 : Int) : Rat) / ((8 : Int) : Rat) = (-1/8 : Rat)) := Lib.hid (by decide +kernel)
  have su4 : sz ((-1/8 : Rat)) ≤ 4 := sz_of (wl_le.2 (by decide +kernel)) (wl_le.2 (by decide +kernel))
  have HZ5 : Hid (((-1 : Int) : Rat) / ((1000 : Int) : Rat) = (-1/1000 : Rat)) := Lib.hid (by decide +kernel)
  have su5 : sz ((-1/1000 : Rat)) ≤ 4 := sz_of (wl_le.2 (by decide +kernel)) (wl_le.2 (by decide +kernel))
  have HZ6 : Hid (((5 : Int) : Rat) / ((2 : Int) : Rat) = (5/2 : Rat)) := Lib.hid (by decide +kernel)
  have su6 : sz ((5/2 : Rat)) ≤ 4 := sz_of (wl_le.2 (by decide +kernel)) (wl_le.2 (by decide +kernel))
  have lx1 := HF.out.c 0 rfl
  refine kS fun K hK => ?_
  refine sq 38 [(true, 0), (true, 1), (true, 2), (true, 3), (true, 4), (true, 5), (true, 6), (true, 7), (true, 8), (true, 9), (true, 10), (true, 11), (true, 12), (true, 13), (true, 14), (true, 15), (true, 16), (true, 17), (true, 18), (true, 19), (true, 20), (true, 21), (true, 22), (true, 23), (true, 24), (true, 25), (true, 26), (true, 27), (true, 28), (true, 29), (true, 30), (true, 31), (true, 32), (true, 33), (true, 34), (true, 35), (true, 36), (true, 37)] fun T hT => ?_
  refine tk ?_
  refine ck Tryz.call152 (fun w' hw => ltext_any (1/8 : Rat) 2 (1) ⟨#[48, 46, 49, 50]⟩ _ (Lib.hid (by rw [show rnd (1) ((1/8 : Rat) * (((10 ^ 2 : Nat) : Int) : Rat)) = (12) from by decide +kernel]; exact dtx_lit (l := [49, 50]) (dec_lit 2 (by decide +kernel) (by decide +kernel)) (by decide +kernel))) (by decide) (by decide) (by decide) om (Lib.hid (HT.out.gr (Gr.trans HB.out hw)))) ?_
  iterate 3 refine tk ?_
  refine ck Tryz.call152 (fun w' hw => ltext_any (1/8 : Rat) 2 (2) ⟨#[48, 46, 49, 51]⟩ _ (Lib.hid (by rw [show rnd (2) ((1/8 : Rat) * (((10 ^ 2 : Nat) : Int) : Rat)) = (13) from by decide +kernel]; exact dtx_lit (l := [49, 51]) (dec_lit 2 (by decide +kernel) (by decide +kernel)) (by decide +kernel))) (by decide) (by decide) (by decide) om (Lib.hid (HT.out.gr (Gr.trans HB.out hw)))) ?_
  iterate 4 refine tk ?_
  refine ck Tryz.call152 (fun w' hw => ltext_any (1/8 : Rat) 2 (3) ⟨#[48, 46, 49, 50]⟩ _ (Lib.hid (by rw [show rnd (3) ((1/8 : Rat) * (((10 ^ 2 : Nat) : Int) : Rat)) = (12) from by decide +kernel]; exact dtx_lit (l := [49, 50]) (dec_lit 2 (by decide +kernel) (by decide +kernel)) (by decide +kernel))) (by decide) (by decide) (by decide) om (Lib.hid (HT.out.gr (Gr.trans HB.out hw)))) ?_
  iterate 3 refine tk ?_
  refine ck Tryz.call151 (fun w' hw => ofd_any (3) (8) (3/8 : Rat) _ (Lib.hid HZ2.out) (by decide) om om om om) ?_
  refine ck Tryz.call152 (fun w' hw => ltext_any (3/8 : Rat) 2 (3) ⟨#[48, 46, 51, 56]⟩ _ (Lib.hid (by rw [show rnd (3) ((3/8 : Rat) * (((10 ^ 2 : Nat) : Int) : Rat)) = (38) from by decide +kernel]; exact dtx_lit (l := [51, 56]) (dec_lit 2 (by decide +kernel) (by decide +kernel)) (by decide +kernel))) (by decide) (by decide) (by decide) om (Lib.hid (HT.out.gr (Gr.trans HB.out hw)))) ?_
  iterate 3 refine tk ?_
  refine ck Tryz.call151 (fun w' hw => ofd_any (-1) (8) (-1/8 : Rat) _ (Lib.hid HZ3.out) (by decide) om om om om) ?_
  refine ck Tryz.call152 (fun w' hw => ltext_any (-1/8 : Rat) 2 (1) ⟨#[45, 48, 46, 49, 51]⟩ _ (Lib.hid (by rw [show rnd (1) ((-1/8 : Rat) * (((10 ^ 2 : Nat) : Int) : Rat)) = (-13) from by decide +kernel]; exact dtx_lit (l := [49, 51]) (dec_lit 2 (by decide +kernel) (by decide +kernel)) (by decide +kernel))) (by decide) (by decide) (by decide) om (Lib.hid (HT.out.gr (Gr.trans HB.out hw)))) ?_
  iterate 3 refine tk ?_
  refine ck Tryz.call151 (fun w' hw => ofd_any (-1) (8) (-1/8 : Rat) _ (Lib.hid HZ4.out) (by decide) om om om om) ?_
  refine ck Tryz.call152 (fun w' hw => ltext_any (-1/8 : Rat) 2 (2) ⟨#[45, 48, 46, 49, 50]⟩ _ (Lib.hid (by rw [show rnd (2) ((-1/8 : Rat) * (((10 ^ 2 : Nat) : Int) : Rat)) = (-12) from by decide +kernel]; exact dtx_lit (l := [49, 50]) (dec_lit 2 (by decide +kernel) (by decide +kernel)) (by decide +kernel))) (by decide) (by decide) (by decide) om (Lib.hid (HT.out.gr (Gr.trans HB.out hw)))) ?_
  iterate 3 refine tk ?_
  refine ck Tryz.call151 (fun w' hw => ofd_any (-1) (1000) (-1/1000 : Rat) _ (Lib.hid HZ5.out) (by decide) om om om om) ?_
  refine ck Tryz.call152 (fun w' hw => ltext_any (-1/1000 : Rat) 2 (2) ⟨#[48, 46, 48, 48]⟩ _ (Lib.hid (by rw [show rnd (2) ((-1/1000 : Rat) * (((10 ^ 2 : Nat) : Int) : Rat)) = (0) from by decide +kernel]; exact dtx_lit (l := [48]) (dec_lit 1 (by decide +kernel) (by decide +kernel)) (by decide +kernel))) (by decide) (by decide) (by decide) om (Lib.hid (HT.out.gr (Gr.trans HB.out hw)))) ?_
  iterate 3 refine tk ?_
  refine ck Tryz.call151 (fun w' hw => ofd_any (5) (2) (5/2 : Rat) _ (Lib.hid HZ6.out) (by decide) om om om om) ?_
  refine ck Tryz.call152 (fun w' hw => ltext_any (5/2 : Rat) 0 (3) ⟨#[50]⟩ _ (Lib.hid (by rw [show rnd (3) ((5/2 : Rat) * (((10 ^ 0 : Nat) : Int) : Rat)) = (2) from by decide +kernel]; exact dtx_lit (l := [50]) (dec_lit 1 (by decide +kernel) (by decide +kernel)) (by decide +kernel))) (by decide) (by decide) (by decide) om (Lib.hid (HT.out.gr (Gr.trans HB.out hw)))) ?_
  iterate 2 refine tk ?_
  refine nlS hT HF fun vw2 HG => ?_
  clear hT T HF lx1 HB
  go_wp2
  refine kO hK ?_; clear hK K
  refine fH ((HG.out).er 0) fun Wx2 HF => ?_
  clear HG
  refine wp_cond_false (by rfl) ?_
  refine wp_skip ?_
  show Code.wp _ _ _ _ _
  have HZ7 : Hid (((2 : Int) : Rat) / ((3 : Int) : Rat) = (2/3 : Rat)) := Lib.hid (by decide +kernel)
  have su7 : sz ((2/3 : Rat)) ≤ 4 := sz_of (wl_le.2 (by decide +kernel)) (wl_le.2 (by decide +kernel))
  have HZ8 : Hid (rdd (2) (2/3 : Rat) 1 = (7/10 : Rat)) := Lib.hid (by decide +kernel)
  have su8 : sz ((7/10 : Rat)) ≤ 17 := sz_of (wl_le.2 (by decide +kernel)) (wl_le.2 (by decide +kernel))
  refine kS fun K hK => ?_
  refine sq 5 [(true, 0), (true, 1), (true, 2), (true, 3), (true, 4)] fun T hT => ?_
  refine ck Tryz.call151 (fun w' hw => ofd_any (2) (3) (2/3 : Rat) _ (Lib.hid HZ7.out) (by decide) om om om om) ?_
  refine ck Tryz.call56 (fun w' hw => dround (2) (2/3 : Rat) 1 (7/10 : Rat) _ HZ8.out (by omega) (by omega) (by omega) om) ?_
  iterate 3 refine tk ?_
  refine nlS hT HF fun vw3 HG => ?_
  clear hT T HF
  go_wp2
  refine kO hK ?_; clear hK K
  refine fH ((HG.out).aL (vw3.heap.size)) fun Wx4 HF => ?_
  clear HG
  generalize vw3.heap.size = gx2 at *
  have HZ9 : Hid (((-1 : Int) : Rat) / ((3 : Int) : Rat) = (-1/3 : Rat)) := Lib.hid (by decide +kernel)
  have su9 : sz ((-1/3 : Rat)) ≤ 4 := sz_of (wl_le.2 (by decide +kernel)) (wl_le.2 (by decide +kernel))
  have HZ10 : Hid (rdd 1 (-1/3 : Rat) 1 = (-2/5 : Rat)) := Lib.hid (by decide +kernel)
  have su10 : sz ((-2/5 : Rat)) ≤ 17 := sz_of (wl_le.2 (by decide +kernel)) (wl_le.2 (by decide +kernel))
  have HZ11 : Hid (rdd 2 (-1/3 : Rat) 1 = (-3/10 : Rat)) := Lib.hid (by decide +kernel)
  have su11 : sz ((-3/10 : Rat)) ≤ 17 := sz_of (wl_le.2 (by decide +kernel)) (wl_le.2 (by decide +kernel))
  refine kS fun K hK => ?_
  refine sq 6 [(true, 0), (true, 1), (true, 2), (true, 3), (true, 4), (true, 5)] fun T hT => ?_
  refine ck Tryz.call151 (fun w' hw => ofd_any (-1) (3) (-1/3 : Rat) _ (Lib.hid HZ9.out) (by decide) om om om om) ?_
  refine ck Tryz.call153 (fun w' hw => dbtw_any (-1/3 : Rat) (-2/5 : Rat) (-3/10 : Rat) 1 _ (Lib.hid HZ10.out) (Lib.hid HZ11.out) (by omega) om) ?_
  iterate 4 refine tk ?_
  refine nlS hT HF fun vw4 HG => ?_
  clear hT T HF
  go_wp2
  refine kO hK ?_; clear hK K
  refine fH (((HG.out).aL (vw4.heap.size)).aL (vw4.heap.size + 1)) fun Wx5 HF => ?_
  clear HG
  generalize vw4.heap.size + 1 = gx4 at *
  generalize vw4.heap.size = gx3 at *
  have HZ12 : Hid (((1 : Int) : Rat) = (1 : Rat)) := Lib.hid (by decide +kernel)
  have su12 : sz ((1 : Rat)) ≤ 2 := sz_of (wl_le.2 (by decide +kernel)) (wl_le.2 (by decide +kernel))
  refine kS fun K hK => ?_
  refine sq 7 [(true, 0), (true, 1), (true, 2), (true, 3), (true, 4), (true, 5), (true, 6)] fun T hT => ?_
  refine ck Tryz.call32 (fun w' hw => fint_any (1) (1 : Rat) _ HZ12.out om om) ?_
  refine ck Tryz.call57 (fun w' hw => dtext_bad (1 : Rat) (101) (1) (3) _ (by decide) (by decide) om) ?_
  iterate 5 refine tk ?_
  refine nlS hT HF fun vw5 HG => ?_
  clear hT T HF
  go_wp2
  refine kO hK ?_; clear hK K
  have HF := HG; clear HG
  have HZ13 : Hid (((1 : Int) : Rat) = (1 : Rat)) := Lib.hid (by decide +kernel)
  have su13 : sz ((1 : Rat)) ≤ 2 := sz_of (wl_le.2 (by decide +kernel)) (wl_le.2 (by decide +kernel))
  refine kS fun K hK => ?_
  refine sq 7 [(true, 0), (true, 1), (true, 2), (true, 3), (true, 4), (true, 5), (true, 6)] fun T hT => ?_
  refine ck Tryz.call32 (fun w' hw => fint_any (1) (1 : Rat) _ HZ13.out om om) ?_
  refine ck Tryz.call57 (fun w' hw => dtext_bad (1 : Rat) (0) (4) (1) _ (by decide) (by decide) om) ?_
  iterate 5 refine tk ?_
  refine nlS hT HF fun vw6 HG => ?_
  clear hT T HF
  go_wp2
  refine kO hK ?_; clear hK K
  have HF := HG; clear HG
  refine wp_seq ?_
  have HZ14 : Hid (((7 : Int) : Rat) / ((10 : Int) : Rat) = (7/10 : Rat)) := Lib.hid (by decide +kernel)
  have su14 : sz ((7/10 : Rat)) ≤ 4 := sz_of (wl_le.2 (by decide +kernel)) (wl_le.2 (by decide +kernel))
  have HZ15 : Hid (((-2 : Int) : Rat) / ((5 : Int) : Rat) = (-2/5 : Rat)) := Lib.hid (by decide +kernel)
  have su15 : sz ((-2/5 : Rat)) ≤ 4 := sz_of (wl_le.2 (by decide +kernel)) (wl_le.2 (by decide +kernel))
  have HZ16 : Hid (((-3 : Int) : Rat) / ((10 : Int) : Rat) = (-3/10 : Rat)) := Lib.hid (by decide +kernel)
  have su16 : sz ((-3/10 : Rat)) ≤ 4 := sz_of (wl_le.2 (by decide +kernel)) (wl_le.2 (by decide +kernel))
  have lx2 := HF.out.c 0 rfl
  have lx3 := HF.out.c 1 rfl
  have lx4 := HF.out.c 2 rfl
  refine kS fun K hK => ?_
  refine pd 24 [(true, 0), (true, 1), (true, 2), (true, 3), (true, 4), (true, 5), (true, 6), (true, 7), (true, 8), (true, 9), (true, 10), (true, 11), (true, 12), (true, 13), (true, 14), (true, 15), (true, 16), (true, 17), (true, 18), (true, 19), (true, 20), (true, 21), (true, 22), (true, 23)] fun T hT => ?_
  refine tk ?_
  refine ck Tryz.call151 (fun w' hw => ofd_any (7) (10) (7/10 : Rat) _ (Lib.hid HZ14.out) (by decide) om om om om) ?_
  iterate 3 refine tk ?_
  refine ck Tryz.call151 (fun w' hw => ofd_any (-2) (5) (-2/5 : Rat) _ (Lib.hid HZ15.out) (by decide) om om om om) ?_
  iterate 4 refine tk ?_
  refine ck Tryz.call151 (fun w' hw => ofd_any (-3) (10) (-3/10 : Rat) _ (Lib.hid HZ16.out) (by decide) om om om om) ?_
  iterate 13 refine tk ?_
  refine nlD hT HF fun vw7 HG => ?_
  clear hT T HF lx2 lx3 lx4
  go_wp2
  refine kO hK ?_; clear hK K
  refine fH ((((HG.out).er 2).er 1).er 0) fun Wx8 HF => ?_
  clear HG
  refine wp_cond_false (by rfl) ?_
  refine wp_skip ?_
  show Code.wp _ _ _ _ _
  refine wp_seq ?_
  have HB := HPb HF
  refine kS fun K hK => ?_
  refine sq 22 [(true, 0), (true, 1), (true, 2), (true, 3), (true, 4), (true, 5), (true, 6), (true, 7), (true, 8), (true, 9), (true, 10), (true, 11), (true, 12), (true, 13), (true, 14), (true, 15), (true, 16), (true, 17), (true, 18), (true, 19), (true, 20), (true, 21)] fun T hT => ?_
  refine ck Tryz.call154 (fun w' hw => dread_ok ⟨#[45, 49, 46, 50, 53]⟩ ⟨#[45, 53, 47, 52]⟩ (-5/4 : Rat) _ (Lib.hid (by decide +kernel)) (Lib.hid (by decide +kernel)) (Lib.hid (by decide +kernel)) (by decide) (sz_of (wl_le.2 (by decide +kernel)) (wl_le.2 (by decide +kernel))) (Lib.hid (HT.out.gr (Gr.trans HB.out hw)))) ?_
  iterate 2 refine tk ?_
  refine ck Tryz.call154 (fun w' hw => dread_no ⟨#[48, 48, 55]⟩ _ (Lib.hid (by decide +kernel)) (Lib.hid (by decide +kernel)) (by decide) (Lib.hid (HT.out.gr (Gr.trans HB.out hw)))) ?_
  iterate 3 refine tk ?_
  refine ck Tryz.call154 (fun w' hw => dread_no ⟨#[49, 46]⟩ _ (Lib.hid (by decide +kernel)) (Lib.hid (by decide +kernel)) (by decide) (Lib.hid (HT.out.gr (Gr.trans HB.out hw)))) ?_
  iterate 3 refine tk ?_
  refine ck Tryz.call154 (fun w' hw => dread_no ⟨#[46, 53]⟩ _ (Lib.hid (by decide +kernel)) (Lib.hid (by decide +kernel)) (by decide) (Lib.hid (HT.out.gr (Gr.trans HB.out hw)))) ?_
  iterate 3 refine tk ?_
  refine ck Tryz.call154 (fun w' hw => dread_no ⟨#[45, 48, 46, 48]⟩ _ (Lib.hid (by decide +kernel)) (Lib.hid (by decide +kernel)) (by decide) (Lib.hid (HT.out.gr (Gr.trans HB.out hw)))) ?_
  iterate 3 refine tk ?_
  refine ck Tryz.call154 (fun w' hw => dread_ok ⟨#[51, 46, 49, 48]⟩ ⟨#[51, 49, 47, 49, 48]⟩ (31/10 : Rat) _ (Lib.hid (by decide +kernel)) (Lib.hid (by decide +kernel)) (Lib.hid (by decide +kernel)) (by decide) (sz_of (wl_le.2 (by decide +kernel)) (wl_le.2 (by decide +kernel))) (Lib.hid (HT.out.gr (Gr.trans HB.out hw)))) ?_
  iterate 2 refine tk ?_
  refine nlS hT HF fun vw8 HG => ?_
  clear hT T HF HB
  go_wp2
  refine kO hK ?_; clear hK K
  have HF := HG; clear HG
  refine wp_cond_false (by rfl) ?_
  refine wp_skip ?_
  show Code.wp _ _ _ _ _
  have HZ17 : Hid (((1 : Int) : Rat) / ((109 : Int) : Rat) = (1/109 : Rat)) := Lib.hid (by decide +kernel)
  have su17 : sz ((1/109 : Rat)) ≤ 4 := sz_of (wl_le.2 (by decide +kernel)) (wl_le.2 (by decide +kernel))
  refine kS fun K hK => ?_
  refine sq 9 [(true, 0), (true, 1), (true, 2), (true, 3), (true, 4), (true, 5), (true, 6), (true, 7), (true, 8)] fun T hT => ?_
  refine ck Tryz.call151 (fun w' hw => ofd_any (1) (109) (1/109 : Rat) _ (Lib.hid HZ17.out) (by decide) om om om om) ?_
  refine ck Tryz.call63 (fun w' hw => cycle_any (1/109 : Rat) 0 0 3 _ (by decide +kernel) om) ?_
  iterate 7 refine tk ?_
  refine nlS hT HF fun vw9 HG => ?_
  clear hT T HF
  go_wp2
  refine kO hK ?_; clear hK K
  have HF := HG; clear HG
  have HZ18 : Hid (((1 : Int) : Rat) / ((6 : Int) : Rat) = (1/6 : Rat)) := Lib.hid (by decide +kernel)
  have su18 : sz ((1/6 : Rat)) ≤ 4 := sz_of (wl_le.2 (by decide +kernel)) (wl_le.2 (by decide +kernel))
  have HZ19 : Hid (((1 : Int) : Rat) / ((7 : Int) : Rat) = (1/7 : Rat)) := Lib.hid (by decide +kernel)
  have su19 : sz ((1/7 : Rat)) ≤ 4 := sz_of (wl_le.2 (by decide +kernel)) (wl_le.2 (by decide +kernel))
  have HZ20 : Hid (((-1 : Int) : Rat) / ((8 : Int) : Rat) = (-1/8 : Rat)) := Lib.hid (by decide +kernel)
  have su20 : sz ((-1/8 : Rat)) ≤ 4 := sz_of (wl_le.2 (by decide +kernel)) (wl_le.2 (by decide +kernel))
  have HZ21 : Hid (((3 : Int) : Rat) = (3 : Rat)) := Lib.hid (by decide +kernel)
  have su21 : sz ((3 : Rat)) ≤ 2 := sz_of (wl_le.2 (by decide +kernel)) (wl_le.2 (by decide +kernel))
  refine kS fun K hK => ?_
  refine sq 19 [(true, 0), (true, 1), (true, 2), (true, 3), (true, 4), (true, 5), (true, 6), (true, 7), (true, 8), (true, 9), (true, 10), (true, 11), (true, 12), (true, 13), (true, 14), (true, 15), (true, 16), (true, 17), (true, 18)] fun T hT => ?_
  refine ck Tryz.call151 (fun w' hw => ofd_any (1) (6) (1/6 : Rat) _ (Lib.hid HZ18.out) (by decide) om om om om) ?_
  refine ck Tryz.call155 (fun w' hw => dcycles_any (1/6 : Rat) (1) (1) _ (Lib.hid (by decide +kernel)) om) ?_
  refine tk ?_
  refine ck Tryz.call151 (fun w' hw => ofd_any (1) (7) (1/7 : Rat) _ (Lib.hid HZ19.out) (by decide) om om om om) ?_
  refine ck Tryz.call155 (fun w' hw => dcycles_any (1/7 : Rat) (0) (6) _ (Lib.hid (by decide +kernel)) om) ?_
  iterate 2 refine tk ?_
  refine ck Tryz.call151 (fun w' hw => ofd_any (-1) (8) (-1/8 : Rat) _ (Lib.hid HZ20.out) (by decide) om om om om) ?_
  refine ck Tryz.call155 (fun w' hw => dcycles_any (-1/8 : Rat) (3) (0) _ (Lib.hid (by decide +kernel)) om) ?_
  iterate 2 refine tk ?_
  refine ck Tryz.call32 (fun w' hw => fint_any (3) (3 : Rat) _ HZ21.out om om) ?_
  refine ck Tryz.call155 (fun w' hw => dcycles_any (3 : Rat) (0) (0) _ (Lib.hid (by decide +kernel)) om) ?_
  iterate 6 refine tk ?_
  refine nlS hT HF fun vw10 HG => ?_
  clear hT T HF
  go_wp2
  refine kO hK ?_; clear hK K
  have HF := HG; clear HG
  refine wp_ret ?_
  try simp only [Exit.then, Exit.inBlock]
  exact bodyPost_ret (v := .bool true) (by simp [results, Tryz.results55, go_sem]) rfl ⟨rfl, HF.out.1⟩
end Go.Proofs.YtaflakcemiilaaaGreatDoor
