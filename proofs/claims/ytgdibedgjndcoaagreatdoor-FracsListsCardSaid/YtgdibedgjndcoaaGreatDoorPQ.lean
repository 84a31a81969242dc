/- A pack of texts: IntParse, IntParse2, ParseZ. No condition but those stated. -/
import Derived.Test.YtgdibedgjndcoaaGreatDoorIntParseP
import Derived.Test.YtgdibedgjndcoaaGreatDoorIntE
import Derived.Test.YtgdibedgjndcoaaGreatDoorShelf
import Derived.Test.YtgdibedgjndcoaaGreatDoorPJ
import Derived.Test.YtgdibedgjndcoaaGreatDoorHp
set_option linter.unusedVariables false
set_option linter.unusedSimpArgs false

/- ints.Parse and gussetref02.Parse: the integer of a decimal form, the code. -/
namespace Go.Proofs.YtgdibedgjndcoaaGreatDoor
open Go.RowKit
set_option linter.unusedSimpArgs false
set_option linter.unusedVariables false
theorem lite_cut (s p : ByteArray) (w : World) :
    Calls Tryz.prog 202 #[.string s, .string p] w fun e w' => e = .returned (.tuple #[.string ⟨(Lib.trimPrefix s.data.toList p.data.toList).toArray⟩, .bool (Lib.hasPrefix s.data.toList p.data.toList)]) ∧ w' = w := by
  by_cases h : Lib.hasPrefix s.data.toList p.data.toList = true
  · have h0 := h
    rw [← Lib.hasPrefix_raw, Bool.and_eq_true, decide_eq_true_eq] at h0
    obtain ⟨h1, h2⟩ := h0
    rw [Lib.trimPrefix_hit s p h1 h2, h]
    have HP := Lib.hid h
    clear h h2
    go_enter Tryz.func202, Tryz.ntmps202
    go_wp2_with fail
    refine (Tryz.stringslite_HasPrefix s p w).mono ?_
    rintro e w1 ⟨rfl, rfl⟩
    rw [HP.out]
    go_wp2
    go_ret2
    exact ⟨rfl, rfl⟩
  · have h0 : Lib.hasPrefix s.data.toList p.data.toList = false := by simpa using h
    rw [Lib.trimPrefix_miss s p (by rw [Lib.hasPrefix_raw, h0]), h0]
    have HP := Lib.hid h0
    clear h h0
    go_enter Tryz.func202, Tryz.ntmps202
    go_wp2_with fail
    refine (Tryz.stringslite_HasPrefix s p w).mono ?_
    rintro e w1 ⟨rfl, rfl⟩
    rw [HP.out]
    go_wp2
    go_ret2
    exact ⟨rfl, rfl⟩
theorem cut_minus (s : ByteArray) (w : World) :
    Calls Tryz.prog 143 #[.string s, .string ⟨#[45]⟩] w fun e w' => e = .returned (.tuple #[.string (idig s), .bool (ineg s)]) ∧ w' = w := by
  go_enter Tryz.func143, Tryz.ntmps143
  go_wp2_with fail
  refine (lite_cut s _ w).mono ?_
  rintro e w1 ⟨rfl, rfl⟩
  go_wp2
  go_ret2
  exact ⟨rfl, rfl⟩
end Go.Proofs.YtgdibedgjndcoaaGreatDoor


/- ints.Parse. -/
namespace Go.Proofs.YtgdibedgjndcoaaGreatDoor
open Go.RowKit
set_option linter.unusedSimpArgs false
set_option linter.unusedVariables false
attribute [local go_sem ↓] Go.wp_at_zero Go.wp_at_succ
attribute [local go_sem ↓] eq_nat eq_nat_zero eq_int
theorem cutm (s : ByteArray) (b : Bool) (w : World) (hb : ineg s = b) :
    Calls Tryz.prog 143 #[.string s, .string ⟨#[45]⟩] w fun e w' => e = .returned (.tuple #[.string (idig s), .bool b]) ∧ Below w.heap.size w w' := hb ▸ (cut_minus s w).mono fun e w' ⟨h, hw⟩ => ⟨h, by rw [hw]; exact Below.refl _ _⟩

theorem pnum_lt (s : ByteArray) (L : Nat) (hL : L = 4096) : pnum s < 10 ^ L := by
  unfold pnum
  split
  · rename_i h
    obtain ⟨h1, h2, h3, h4⟩ := h
    rw [pv_lv]
    have := lv_lt s.data.toList (fun c hc => by
      obtain ⟨i, hi, rfl⟩ := List.getElem_of_mem hc
      have hi' : i < s.size := by simpa using hi
      rw [← byt_list s i hi']
      exact (h4 i hi').2)
    refine Nat.lt_of_lt_of_le this (Nat.pow_le_pow_right (by decide) ?_)
    rw [Array.length_toList, hL]
    exact h1
  · exact Nat.pow_pos (by decide)
theorem ten_tp (k : Nat) : (10 : Nat) ^ (4 * k) = tp k := Nat.pow_mul 10 4 k
theorem ten_bp (k : Nat) : (10 : Nat) ^ (8 * k) ≤ bp k := by
  unfold bp
  rw [Nat.pow_mul]
  exact Nat.pow_le_pow_left (by decide) k
theorem pnum_tp (s : ByteArray) (k : Nat) (h : 4 * k = 4096) : pnum s < tp k := by rw [← ten_tp k]; exact pnum_lt s _ h
theorem pnum_bp (s : ByteArray) (k : Nat) (h : 8 * k = 4096) : pnum s < bp k := Nat.lt_of_lt_of_le (pnum_lt s _ h) (ten_bp k)

set_option maxRecDepth 20000 in
set_option maxHeartbeats 4000000 in
theorem ip_true_3 (s : ByteArray) (w : World) (hsz : (idig s).size ≤ 9223372036854775807) (HNG : Hid (ineg s = true)) (HPC : Hid (pcode (idig s) = 3)) (HPN : Hid (pnum (idig s) = 0)) :
    Calls Tryz.prog 167 #[.string s] w fun e w' => e = .returned (.tuple #[(.agg #[.int .u64 ((lo (Int.natAbs (0)) : Nat) : Int), .string (bg (Int.natAbs (0))), .bool (decide ((0) < 0))]), .int .i64 3]) ∧ Below w.heap.size w w' := by
  go_enter Tryz.func167, Tryz.ntmps167
  have HF := Lib.hid (hp0 w)
  refine kS fun K hK => ?_
  refine wp_region_lit ?_
  go_wp2
  refine hK.out _ _ ?_; clear hK K
  show Code.wp _ _ _ _ _
  refine fH ((HF.out).al (b := w.heap.size) (by first | rfl | simp) (by decide)) fun Wx0 HG => ?_
  clear HF; have HF := HG; clear HG
  refine kS fun K hK => ?_
  refine sq 7 [(true, 0), (true, 1), (true, 2), (true, 3), (true, 4), (true, 5), (true, 6)] fun T hT => ?_
  refine tk ?_
  refine ck Tryz.call143 (fun w' hw => cutm s true _ HNG.out) ?_
  iterate 5 refine tk ?_
  refine nlS hT HF fun vw1 HG => ?_
  clear hT T HF
  go_wp2
  refine hK.out _ _ ?_; clear hK K
  show Code.wp _ _ _ _ _
  have HF := HG; clear HG
  refine kS fun K hK => ?_
  refine sq 5 [(true, 0), (true, 1), (true, 2), (true, 3), (true, 4)] fun T hT => ?_
  refine tk ?_
  refine ck Tryz.call145 (fun w' hw => nzparse (idig s) 0 3 _ HPN.out HPC.out (by omega)) ?_
  iterate 3 refine tk ?_
  refine nlS hT HF fun vw2 HG => ?_
  clear hT T HF
  go_wp2
  refine hK.out _ _ ?_; clear hK K
  show Code.wp _ _ _ _ _
  refine fH ((HG.out).al (b := vw2.heap.size) (by first | rfl | simp) (by decide)) fun Wx2 HF => ?_
  clear HG
  generalize vw2.heap.size = gx2 at *
  have HZ1 : Hid ((if true then -((0 : Nat) : Int) else ((0 : Nat) : Int)) = 0) := Lib.hid (ok)
  have su1 : wl (Int.natAbs (0)) ≤ 0 := by have e := HZ1.out; first | omega | (rw [← e]; split <;> simp <;> omega) | exact wl_le.2 (by decide +kernel)
  have lx2 := HF.out.c 1 rfl
  refine kS fun K hK => ?_
  refine sq 3 [(true, 0), (true, 1), (true, 2)] fun T hT => ?_
  iterate 2 refine tk ?_
  refine ck Tryz.call117 (fun w' hw => from_any true (0) (0) _ HZ1.out) ?_
  refine nlS hT HF fun vw3 HG => ?_
  clear hT T HF lx2
  go_wp2
  refine hK.out _ _ ?_; clear hK K
  show Code.wp _ _ _ _ _
  refine fH (((HG.out).al (b := vw3.heap.size) (by first | rfl | simp) (by decide)).er 1) fun Wx3 HF => ?_
  clear HG
  generalize vw3.heap.size = gx3 at *
  refine wp_seq ?_
  refine wp_block ?_
  refine kS fun K hK => ?_
  refine sq 3 [(true, 0), (true, 1), (true, 2)] fun T hT => ?_
  iterate 3 refine tk ?_
  refine nlS hT HF fun vw4 HG => ?_
  clear hT T HF
  go_wp2
  refine hK.out _ _ ?_; clear hK K
  show Code.wp _ _ _ _ _
  have HF := HG; clear HG
  refine wp_cond_true (by rfl) ?_
  refine kS fun K hK => ?_
  refine sq 2 [(true, 0), (true, 1)] fun T hT => ?_
  iterate 2 refine tk ?_
  refine nlS hT HF fun vw5 HG => ?_
  clear hT T HF
  have lx0 := HG.out.c 0 rfl; have fx0 := HG.out.f 0 rfl
  have r0 := Gr.refl vw5
  go_wp2
  refine hK.out _ _ ?_; clear hK K
  show Code.wp _ _ _ _ _
  clear r0 lx0 fx0
  refine fH (((HG.out).put2 0 0 rfl).put 0 2 _ rfl) fun Wx5 HF => ?_
  clear HG
  refine wp_ret ?_
  try simp only [Exit.then, Exit.inBlock]
  have lx0 := HF.out.c 0 rfl
  have r0 := Gr.refl Wx5
  exact bodyPost_ret (v := .tuple #[(.agg #[.int .u64 0, .string ⟨#[]⟩, .bool false]), .int .i64 3]) (by simp [results, Tryz.results167, go_sem, lx0 _ r0]) rfl ⟨rfl, HF.out.1⟩

set_option maxRecDepth 20000 in
set_option maxHeartbeats 4000000 in
theorem ip_true_4 (s : ByteArray) (w : World) (hsz : (idig s).size ≤ 9223372036854775807) (HNG : Hid (ineg s = true)) (HPC : Hid (pcode (idig s) = 4)) (HPN : Hid (pnum (idig s) = 0)) :
    Calls Tryz.prog 167 #[.string s] w fun e w' => e = .returned (.tuple #[(.agg #[.int .u64 ((lo (Int.natAbs (0)) : Nat) : Int), .string (bg (Int.natAbs (0))), .bool (decide ((0) < 0))]), .int .i64 4]) ∧ Below w.heap.size w w' := by
  go_enter Tryz.func167, Tryz.ntmps167
  have HF := Lib.hid (hp0 w)
  refine kS fun K hK => ?_
  refine wp_region_lit ?_
  go_wp2
  refine hK.out _ _ ?_; clear hK K
  show Code.wp _ _ _ _ _
  refine fH ((HF.out).al (b := w.heap.size) (by first | rfl | simp) (by decide)) fun Wx0 HG => ?_
  clear HF; have HF := HG; clear HG
  refine kS fun K hK => ?_
  refine sq 7 [(true, 0), (true, 1), (true, 2), (true, 3), (true, 4), (true, 5), (true, 6)] fun T hT => ?_
  refine tk ?_
  refine ck Tryz.call143 (fun w' hw => cutm s true _ HNG.out) ?_
  iterate 5 refine tk ?_
  refine nlS hT HF fun vw1 HG => ?_
  clear hT T HF
  go_wp2
  refine hK.out _ _ ?_; clear hK K
  show Code.wp _ _ _ _ _
  have HF := HG; clear HG
  refine kS fun K hK => ?_
  refine sq 5 [(true, 0), (true, 1), (true, 2), (true, 3), (true, 4)] fun T hT => ?_
  refine tk ?_
  refine ck Tryz.call145 (fun w' hw => nzparse (idig s) 0 4 _ HPN.out HPC.out (by omega)) ?_
  iterate 3 refine tk ?_
  refine nlS hT HF fun vw2 HG => ?_
  clear hT T HF
  go_wp2
  refine hK.out _ _ ?_; clear hK K
  show Code.wp _ _ _ _ _
  refine fH ((HG.out).al (b := vw2.heap.size) (by first | rfl | simp) (by decide)) fun Wx2 HF => ?_
  clear HG
  generalize vw2.heap.size = gx2 at *
  have HZ1 : Hid ((if true then -((0 : Nat) : Int) else ((0 : Nat) : Int)) = 0) := Lib.hid (ok)
  have su1 : wl (Int.natAbs (0)) ≤ 0 := by have e := HZ1.out; first | omega | (rw [← e]; split <;> simp <;> omega) | exact wl_le.2 (by decide +kernel)
  have lx2 := HF.out.c 1 rfl
  refine kS fun K hK => ?_
  refine sq 3 [(true, 0), (true, 1), (true, 2)] fun T hT => ?_
  iterate 2 refine tk ?_
  refine ck Tryz.call117 (fun w' hw => from_any true (0) (0) _ HZ1.out) ?_
  refine nlS hT HF fun vw3 HG => ?_
  clear hT T HF lx2
  go_wp2
  refine hK.out _ _ ?_; clear hK K
  show Code.wp _ _ _ _ _
  refine fH (((HG.out).al (b := vw3.heap.size) (by first | rfl | simp) (by decide)).er 1) fun Wx3 HF => ?_
  clear HG
  generalize vw3.heap.size = gx3 at *
  refine wp_seq ?_
  refine wp_block ?_
  refine kS fun K hK => ?_
  refine sq 3 [(true, 0), (true, 1), (true, 2)] fun T hT => ?_
  iterate 3 refine tk ?_
  refine nlS hT HF fun vw4 HG => ?_
  clear hT T HF
  go_wp2
  refine hK.out _ _ ?_; clear hK K
  show Code.wp _ _ _ _ _
  have HF := HG; clear HG
  refine wp_cond_true (by rfl) ?_
  refine kS fun K hK => ?_
  refine sq 2 [(true, 0), (true, 1)] fun T hT => ?_
  iterate 2 refine tk ?_
  refine nlS hT HF fun vw5 HG => ?_
  clear hT T HF
  have lx0 := HG.out.c 0 rfl; have fx0 := HG.out.f 0 rfl
  have r0 := Gr.refl vw5
  go_wp2
  refine hK.out _ _ ?_; clear hK K
  show Code.wp _ _ _ _ _
  clear r0 lx0 fx0
  refine fH (((HG.out).put2 0 0 rfl).put 0 2 _ rfl) fun Wx5 HF => ?_
  clear HG
  refine wp_ret ?_
  try simp only [Exit.then, Exit.inBlock]
  have lx0 := HF.out.c 0 rfl
  have r0 := Gr.refl Wx5
  exact bodyPost_ret (v := .tuple #[(.agg #[.int .u64 0, .string ⟨#[]⟩, .bool false]), .int .i64 4]) (by simp [results, Tryz.results167, go_sem, lx0 _ r0]) rfl ⟨rfl, HF.out.1⟩

set_option maxRecDepth 20000 in
set_option maxHeartbeats 4000000 in
theorem ip_false_3 (s : ByteArray) (w : World) (hsz : (idig s).size ≤ 9223372036854775807) (HNG : Hid (ineg s = false)) (HPC : Hid (pcode (idig s) = 3)) (HPN : Hid (pnum (idig s) = 0)) :
    Calls Tryz.prog 167 #[.string s] w fun e w' => e = .returned (.tuple #[(.agg #[.int .u64 ((lo (Int.natAbs (0)) : Nat) : Int), .string (bg (Int.natAbs (0))), .bool (decide ((0) < 0))]), .int .i64 3]) ∧ Below w.heap.size w w' := by
  go_enter Tryz.func167, Tryz.ntmps167
  have HF := Lib.hid (hp0 w)
  refine kS fun K hK => ?_
  refine wp_region_lit ?_
  go_wp2
  refine hK.out _ _ ?_; clear hK K
  show Code.wp _ _ _ _ _
  refine fH ((HF.out).al (b := w.heap.size) (by first | rfl | simp) (by decide)) fun Wx0 HG => ?_
  clear HF; have HF := HG; clear HG
  refine kS fun K hK => ?_
  refine sq 7 [(true, 0), (true, 1), (true, 2), (true, 3), (true, 4), (true, 5), (true, 6)] fun T hT => ?_
  refine tk ?_
  refine ck Tryz.call143 (fun w' hw => cutm s false _ HNG.out) ?_
  iterate 5 refine tk ?_
  refine nlS hT HF fun vw1 HG => ?_
  clear hT T HF
  go_wp2
  refine hK.out _ _ ?_; clear hK K
  show Code.wp _ _ _ _ _
  have HF := HG; clear HG
  refine kS fun K hK => ?_
  refine sq 5 [(true, 0), (true, 1), (true, 2), (true, 3), (true, 4)] fun T hT => ?_
  refine tk ?_
  refine ck Tryz.call145 (fun w' hw => nzparse (idig s) 0 3 _ HPN.out HPC.out (by omega)) ?_
  iterate 3 refine tk ?_
  refine nlS hT HF fun vw2 HG => ?_
  clear hT T HF
  go_wp2
  refine hK.out _ _ ?_; clear hK K
  show Code.wp _ _ _ _ _
  refine fH ((HG.out).al (b := vw2.heap.size) (by first | rfl | simp) (by decide)) fun Wx2 HF => ?_
  clear HG
  generalize vw2.heap.size = gx2 at *
  have HZ1 : Hid ((if false then -((0 : Nat) : Int) else ((0 : Nat) : Int)) = 0) := Lib.hid (ok)
  have su1 : wl (Int.natAbs (0)) ≤ 0 := by have e := HZ1.out; first | omega | (rw [← e]; split <;> simp <;> omega) | exact wl_le.2 (by decide +kernel)
  have lx2 := HF.out.c 1 rfl
  refine kS fun K hK => ?_
  refine sq 3 [(true, 0), (true, 1), (true, 2)] fun T hT => ?_
  iterate 2 refine tk ?_
  refine ck Tryz.call117 (fun w' hw => from_any false (0) (0) _ HZ1.out) ?_
  refine nlS hT HF fun vw3 HG => ?_
  clear hT T HF lx2
  go_wp2
  refine hK.out _ _ ?_; clear hK K
  show Code.wp _ _ _ _ _
  refine fH (((HG.out).al (b := vw3.heap.size) (by first | rfl | simp) (by decide)).er 1) fun Wx3 HF => ?_
  clear HG
  generalize vw3.heap.size = gx3 at *
  refine wp_seq ?_
  refine wp_block ?_
  refine kS fun K hK => ?_
  refine sq 3 [(true, 0), (true, 1), (true, 2)] fun T hT => ?_
  iterate 3 refine tk ?_
  refine nlS hT HF fun vw4 HG => ?_
  clear hT T HF
  go_wp2
  refine hK.out _ _ ?_; clear hK K
  show Code.wp _ _ _ _ _
  have HF := HG; clear HG
  refine wp_cond_true (by rfl) ?_
  refine kS fun K hK => ?_
  refine sq 2 [(true, 0), (true, 1)] fun T hT => ?_
  iterate 2 refine tk ?_
  refine nlS hT HF fun vw5 HG => ?_
  clear hT T HF
  have lx0 := HG.out.c 0 rfl; have fx0 := HG.out.f 0 rfl
  have r0 := Gr.refl vw5
  go_wp2
  refine hK.out _ _ ?_; clear hK K
  show Code.wp _ _ _ _ _
  clear r0 lx0 fx0
  refine fH (((HG.out).put2 0 0 rfl).put 0 2 _ rfl) fun Wx5 HF => ?_
  clear HG
  refine wp_ret ?_
  try simp only [Exit.then, Exit.inBlock]
  have lx0 := HF.out.c 0 rfl
  have r0 := Gr.refl Wx5
  exact bodyPost_ret (v := .tuple #[(.agg #[.int .u64 0, .string ⟨#[]⟩, .bool false]), .int .i64 3]) (by simp [results, Tryz.results167, go_sem, lx0 _ r0]) rfl ⟨rfl, HF.out.1⟩

set_option maxRecDepth 20000 in
set_option maxHeartbeats 4000000 in
theorem ip_false_4 (s : ByteArray) (w : World) (hsz : (idig s).size ≤ 9223372036854775807) (HNG : Hid (ineg s = false)) (HPC : Hid (pcode (idig s) = 4)) (HPN : Hid (pnum (idig s) = 0)) :
    Calls Tryz.prog 167 #[.string s] w fun e w' => e = .returned (.tuple #[(.agg #[.int .u64 ((lo (Int.natAbs (0)) : Nat) : Int), .string (bg (Int.natAbs (0))), .bool (decide ((0) < 0))]), .int .i64 4]) ∧ Below w.heap.size w w' := by
  go_enter Tryz.func167, Tryz.ntmps167
  have HF := Lib.hid (hp0 w)
  refine kS fun K hK => ?_
  refine wp_region_lit ?_
  go_wp2
  refine hK.out _ _ ?_; clear hK K
  show Code.wp _ _ _ _ _
  refine fH ((HF.out).al (b := w.heap.size) (by first | rfl | simp) (by decide)) fun Wx0 HG => ?_
  clear HF; have HF := HG; clear HG
  refine kS fun K hK => ?_
  refine sq 7 [(true, 0), (true, 1), (true, 2), (true, 3), (true, 4), (true, 5), (true, 6)] fun T hT => ?_
  refine tk ?_
  refine ck Tryz.call143 (fun w' hw => cutm s false _ HNG.out) ?_
  iterate 5 refine tk ?_
  refine nlS hT HF fun vw1 HG => ?_
  clear hT T HF
  go_wp2
  refine hK.out _ _ ?_; clear hK K
  show Code.wp _ _ _ _ _
  have HF := HG; clear HG
  refine kS fun K hK => ?_
  refine sq 5 [(true, 0), (true, 1), (true, 2), (true, 3), (true, 4)] fun T hT => ?_
  refine tk ?_
  refine ck Tryz.call145 (fun w' hw => nzparse (idig s) 0 4 _ HPN.out HPC.out (by omega)) ?_
  iterate 3 refine tk ?_
  refine nlS hT HF fun vw2 HG => ?_
  clear hT T HF
  go_wp2
  refine hK.out _ _ ?_; clear hK K
  show Code.wp _ _ _ _ _
  refine fH ((HG.out).al (b := vw2.heap.size) (by first | rfl | simp) (by decide)) fun Wx2 HF => ?_
  clear HG
  generalize vw2.heap.size = gx2 at *
  have HZ1 : Hid ((if false then -((0 : Nat) : Int) else ((0 : Nat) : Int)) = 0) := Lib.hid (ok)
  have su1 : wl (Int.natAbs (0)) ≤ 0 := by have e := HZ1.out; first | omega | (rw [← e]; split <;> simp <;> omega) | exact wl_le.2 (by decide +kernel)
  have lx2 := HF.out.c 1 rfl
  refine kS fun K hK => ?_
  refine sq 3 [(true, 0), (true, 1), (true, 2)] fun T hT => ?_
  iterate 2 refine tk ?_
  refine ck Tryz.call117 (fun w' hw => from_any false (0) (0) _ HZ1.out) ?_
  refine nlS hT HF fun vw3 HG => ?_
  clear hT T HF lx2
  go_wp2
  refine hK.out _ _ ?_; clear hK K
  show Code.wp _ _ _ _ _
  refine fH (((HG.out).al (b := vw3.heap.size) (by first | rfl | simp) (by decide)).er 1) fun Wx3 HF => ?_
  clear HG
  generalize vw3.heap.size = gx3 at *
  refine wp_seq ?_
  refine wp_block ?_
  refine kS fun K hK => ?_
  refine sq 3 [(true, 0), (true, 1), (true, 2)] fun T hT => ?_
  iterate 3 refine tk ?_
  refine nlS hT HF fun vw4 HG => ?_
  clear hT T HF
  go_wp2
  refine hK.out _ _ ?_; clear hK K
  show Code.wp _ _ _ _ _
  have HF := HG; clear HG
  refine wp_cond_true (by rfl) ?_
  refine kS fun K hK => ?_
  refine sq 2 [(true, 0), (true, 1)] fun T hT => ?_
  iterate 2 refine tk ?_
  refine nlS hT HF fun vw5 HG => ?_
  clear hT T HF
  have lx0 := HG.out.c 0 rfl; have fx0 := HG.out.f 0 rfl
  have r0 := Gr.refl vw5
  go_wp2
  refine hK.out _ _ ?_; clear hK K
  show Code.wp _ _ _ _ _
  clear r0 lx0 fx0
  refine fH (((HG.out).put2 0 0 rfl).put 0 2 _ rfl) fun Wx5 HF => ?_
  clear HG
  refine wp_ret ?_
  try simp only [Exit.then, Exit.inBlock]
  have lx0 := HF.out.c 0 rfl
  have r0 := Gr.refl Wx5
  exact bodyPost_ret (v := .tuple #[(.agg #[.int .u64 0, .string ⟨#[]⟩, .bool false]), .int .i64 4]) (by simp [results, Tryz.results167, go_sem, lx0 _ r0]) rfl ⟨rfl, HF.out.1⟩

set_option maxRecDepth 20000 in
set_option maxHeartbeats 4000000 in
theorem ip_true_z (s : ByteArray) (w : World) (hsz : (idig s).size ≤ 9223372036854775807) (HNG : Hid (ineg s = true)) (HPC : Hid (pcode (idig s) = 0)) (HPN : Hid (pnum (idig s) = 0)) :
    Calls Tryz.prog 167 #[.string s] w fun e w' => e = .returned (.tuple #[(.agg #[.int .u64 ((lo (Int.natAbs (0)) : Nat) : Int), .string (bg (Int.natAbs (0))), .bool (decide ((0) < 0))]), .int .i64 4]) ∧ Below w.heap.size w w' := by
  go_enter Tryz.func167, Tryz.ntmps167
  have HF := Lib.hid (hp0 w)
  refine kS fun K hK => ?_
  refine wp_region_lit ?_
  go_wp2
  refine hK.out _ _ ?_; clear hK K
  show Code.wp _ _ _ _ _
  refine fH ((HF.out).al (b := w.heap.size) (by first | rfl | simp) (by decide)) fun Wx0 HG => ?_
  clear HF; have HF := HG; clear HG
  refine kS fun K hK => ?_
  refine sq 7 [(true, 0), (true, 1), (true, 2), (true, 3), (true, 4), (true, 5), (true, 6)] fun T hT => ?_
  refine tk ?_
  refine ck Tryz.call143 (fun w' hw => cutm s true _ HNG.out) ?_
  iterate 5 refine tk ?_
  refine nlS hT HF fun vw1 HG => ?_
  clear hT T HF
  go_wp2
  refine hK.out _ _ ?_; clear hK K
  show Code.wp _ _ _ _ _
  have HF := HG; clear HG
  refine kS fun K hK => ?_
  refine sq 5 [(true, 0), (true, 1), (true, 2), (true, 3), (true, 4)] fun T hT => ?_
  refine tk ?_
  refine ck Tryz.call145 (fun w' hw => nzparse (idig s) 0 0 _ HPN.out HPC.out (by omega)) ?_
  iterate 3 refine tk ?_
  refine nlS hT HF fun vw2 HG => ?_
  clear hT T HF
  go_wp2
  refine hK.out _ _ ?_; clear hK K
  show Code.wp _ _ _ _ _
  refine fH ((HG.out).al (b := vw2.heap.size) (by first | rfl | simp) (by decide)) fun Wx2 HF => ?_
  clear HG
  generalize vw2.heap.size = gx2 at *
  have HZ1 : Hid ((if true then -((0 : Nat) : Int) else ((0 : Nat) : Int)) = 0) := Lib.hid (ok)
  have su1 : wl (Int.natAbs (0)) ≤ 0 := by have e := HZ1.out; first | omega | (rw [← e]; split <;> simp <;> omega) | exact wl_le.2 (by decide +kernel)
  have lx2 := HF.out.c 1 rfl
  refine kS fun K hK => ?_
  refine sq 3 [(true, 0), (true, 1), (true, 2)] fun T hT => ?_
  iterate 2 refine tk ?_
  refine ck Tryz.call117 (fun w' hw => from_any true (0) (0) _ HZ1.out) ?_
  refine nlS hT HF fun vw3 HG => ?_
  clear hT T HF lx2
  go_wp2
  refine hK.out _ _ ?_; clear hK K
  show Code.wp _ _ _ _ _
  refine fH (((HG.out).al (b := vw3.heap.size) (by first | rfl | simp) (by decide)).er 1) fun Wx3 HF => ?_
  clear HG
  generalize vw3.heap.size = gx3 at *
  refine wp_seq ?_
  refine wp_block ?_
  refine kS fun K hK => ?_
  refine sq 3 [(true, 0), (true, 1), (true, 2)] fun T hT => ?_
  iterate 3 refine tk ?_
  refine nlS hT HF fun vw4 HG => ?_
  clear hT T HF
  go_wp2
  refine hK.out _ _ ?_; clear hK K
  show Code.wp _ _ _ _ _
  have HF := HG; clear HG
  refine wp_cond_false (by rfl) ?_
  have hd1 : decide ((0) < 0) = false := decide_eq_false (ok)
  have lx3 := HF.out.c 1 rfl
  refine kS fun K hK => ?_
  refine sq 5 [(true, 0), (true, 1), (true, 2), (true, 3), (true, 4)] fun T hT => ?_
  iterate 5 refine tk ?_
  refine nlS hT HF fun vw5 HG => ?_
  clear hT T HF lx3
  go_wp2
  refine hK.out _ _ ?_; clear hK K
  show Code.wp _ _ _ _ _
  have HF := HG; clear HG
  clear hd1
  refine wp_cond_true (by rfl) ?_
  refine kS fun K hK => ?_
  refine sq 1 [(true, 0)] fun T hT => ?_
  refine tk ?_
  refine nlS hT HF fun vw6 HG => ?_
  clear hT T HF
  have lx0 := HG.out.c 0 rfl; have fx0 := HG.out.f 0 rfl
  have r0 := Gr.refl vw6
  go_wp2
  refine hK.out _ _ ?_; clear hK K
  show Code.wp _ _ _ _ _
  clear r0 lx0 fx0
  refine fH (((HG.out).put2 0 0 rfl).put 0 2 _ rfl) fun Wx7 HF => ?_
  clear HG
  refine wp_ret ?_
  try simp only [Exit.then, Exit.inBlock]
  have lx0 := HF.out.c 0 rfl
  have r0 := Gr.refl Wx7
  exact bodyPost_ret (v := .tuple #[(.agg #[.int .u64 0, .string ⟨#[]⟩, .bool false]), .int .i64 4]) (by simp [results, Tryz.results167, go_sem, lx0 _ r0]) rfl ⟨rfl, HF.out.1⟩

set_option maxRecDepth 20000 in
set_option maxHeartbeats 4000000 in
theorem ip_true_n (s : ByteArray) (w : World) (hsz : (idig s).size ≤ 9223372036854775807) (HNG : Hid (ineg s = true)) (n : Nat) (z : Int) (HZZ : Hid (-((n : Nat) : Int) = z)) (HPC : Hid (pcode (idig s) = 0)) (HPN : Hid (pnum (idig s) = n)) (hn : 0 < n) (hw : wl n ≤ 600) :
    Calls Tryz.prog 167 #[.string s] w fun e w' => e = .returned (.tuple #[(.agg #[.int .u64 ((lo (Int.natAbs (z)) : Nat) : Int), .string (bg (Int.natAbs (z))), .bool (decide ((z) < 0))]), .int .i64 0]) ∧ Below w.heap.size w w' := by
  go_enter Tryz.func167, Tryz.ntmps167
  have HF := Lib.hid (hp0 w)
  refine kS fun K hK => ?_
  refine wp_region_lit ?_
  go_wp2
  refine hK.out _ _ ?_; clear hK K
  show Code.wp _ _ _ _ _
  refine fH ((HF.out).al (b := w.heap.size) (by first | rfl | simp) (by decide)) fun Wx0 HG => ?_
  clear HF; have HF := HG; clear HG
  refine kS fun K hK => ?_
  refine sq 7 [(true, 0), (true, 1), (true, 2), (true, 3), (true, 4), (true, 5), (true, 6)] fun T hT => ?_
  refine tk ?_
  refine ck Tryz.call143 (fun w' hw => cutm s true _ HNG.out) ?_
  iterate 5 refine tk ?_
  refine nlS hT HF fun vw1 HG => ?_
  clear hT T HF
  go_wp2
  refine hK.out _ _ ?_; clear hK K
  show Code.wp _ _ _ _ _
  have HF := HG; clear HG
  refine kS fun K hK => ?_
  refine sq 5 [(true, 0), (true, 1), (true, 2), (true, 3), (true, 4)] fun T hT => ?_
  refine tk ?_
  refine ck Tryz.call145 (fun w' hw => nzparse (idig s) n 0 _ HPN.out HPC.out (by omega)) ?_
  iterate 3 refine tk ?_
  refine nlS hT HF fun vw2 HG => ?_
  clear hT T HF
  go_wp2
  refine hK.out _ _ ?_; clear hK K
  show Code.wp _ _ _ _ _
  refine fH ((HG.out).al (b := vw2.heap.size) (by first | rfl | simp) (by decide)) fun Wx2 HF => ?_
  clear HG
  generalize vw2.heap.size = gx2 at *
  have HZ1 : Hid ((if true then -((n : Nat) : Int) else ((n : Nat) : Int)) = z) := Lib.hid (HZZ.out)
  have su1 : wl (Int.natAbs (z)) ≤ 600 := by have e := HZ1.out; first | omega | (rw [← e]; split <;> simp <;> omega)
  have lx2 := HF.out.c 1 rfl
  refine kS fun K hK => ?_
  refine sq 3 [(true, 0), (true, 1), (true, 2)] fun T hT => ?_
  iterate 2 refine tk ?_
  refine ck Tryz.call117 (fun w' hw => from_any true (n) (z) _ HZ1.out) ?_
  refine nlS hT HF fun vw3 HG => ?_
  clear hT T HF lx2
  go_wp2
  refine hK.out _ _ ?_; clear hK K
  show Code.wp _ _ _ _ _
  refine fH (((HG.out).al (b := vw3.heap.size) (by first | rfl | simp) (by decide)).er 1) fun Wx3 HF => ?_
  clear HG
  generalize vw3.heap.size = gx3 at *
  refine wp_seq ?_
  refine wp_block ?_
  refine kS fun K hK => ?_
  refine sq 3 [(true, 0), (true, 1), (true, 2)] fun T hT => ?_
  iterate 3 refine tk ?_
  refine nlS hT HF fun vw4 HG => ?_
  clear hT T HF
  go_wp2
  refine hK.out _ _ ?_; clear hK K
  show Code.wp _ _ _ _ _
  have HF := HG; clear HG
  refine wp_cond_false (by rfl) ?_
  have hd1 : decide ((z) < 0) = true := decide_eq_true (by have e9 := HZZ.out; omega)
  have lx3 := HF.out.c 1 rfl
  refine kS fun K hK => ?_
  refine sq 5 [(true, 0), (true, 1), (true, 2), (true, 3), (true, 4)] fun T hT => ?_
  iterate 5 refine tk ?_
  refine nlS hT HF fun vw5 HG => ?_
  clear hT T HF lx3
  go_wp2
  refine hK.out _ _ ?_; clear hK K
  show Code.wp _ _ _ _ _
  have HF := HG; clear HG
  clear hd1
  refine wp_cond_false (by rfl) ?_
  refine wp_skip ?_
  show Code.wp _ _ _ _ _
  have lx3 := HF.out.c 1 rfl
  refine kS fun K hK => ?_
  refine sq 1 [(true, 0)] fun T hT => ?_
  refine tk ?_
  refine nlS hT HF fun vw6 HG => ?_
  clear hT T HF lx3
  have lx0 := HG.out.c 0 rfl; have fx0 := HG.out.f 0 rfl
  have r0 := Gr.refl vw6
  go_wp2
  refine hK.out _ _ ?_; clear hK K
  show Code.wp _ _ _ _ _
  clear r0 lx0 fx0
  refine fH ((((HG.out).put2 0 0 rfl).put 0 2 _ rfl).er 1) fun Wx8 HF => ?_
  clear HG
  refine wp_ret ?_
  try simp only [Exit.then, Exit.inBlock]
  have lx0 := HF.out.c 0 rfl
  have r0 := Gr.refl Wx8
  exact bodyPost_ret (v := .tuple #[(.agg #[.int .u64 ((lo (Int.natAbs (z)) : Nat) : Int), .string (bg (Int.natAbs (z))), .bool (decide ((z) < 0))]), .int .i64 0]) (by simp [results, Tryz.results167, go_sem, lx0 _ r0]) rfl ⟨rfl, HF.out.1⟩

set_option maxRecDepth 20000 in
set_option maxHeartbeats 4000000 in
theorem ip_false_n (s : ByteArray) (w : World) (hsz : (idig s).size ≤ 9223372036854775807) (HNG : Hid (ineg s = false)) (n : Nat) (z : Int) (HZZ : Hid (((n : Nat) : Int) = z)) (HPC : Hid (pcode (idig s) = 0)) (HPN : Hid (pnum (idig s) = n)) (hw : wl n ≤ 600) :
    Calls Tryz.prog 167 #[.string s] w fun e w' => e = .returned (.tuple #[(.agg #[.int .u64 ((lo (Int.natAbs (z)) : Nat) : Int), .string (bg (Int.natAbs (z))), .bool (decide ((z) < 0))]), .int .i64 0]) ∧ Below w.heap.size w w' := by
  go_enter Tryz.func167, Tryz.ntmps167
  have HF := Lib.hid (hp0 w)
  refine kS fun K hK => ?_
  refine wp_region_lit ?_
  go_wp2
  refine hK.out _ _ ?_; clear hK K
  show Code.wp _ _ _ _ _
  refine fH ((HF.out).al (b := w.heap.size) (by first | rfl | simp) (by decide)) fun Wx0 HG => ?_
  clear HF; have HF := HG; clear HG
  refine kS fun K hK => ?_
  refine sq 7 [(true, 0), (true, 1), (true, 2), (true, 3), (true, 4), (true, 5), (true, 6)] fun T hT => ?_
  refine tk ?_
  refine ck Tryz.call143 (fun w' hw => cutm s false _ HNG.out) ?_
  iterate 5 refine tk ?_
  refine nlS hT HF fun vw1 HG => ?_
  clear hT T HF
  go_wp2
  refine hK.out _ _ ?_; clear hK K
  show Code.wp _ _ _ _ _
  have HF := HG; clear HG
  refine kS fun K hK => ?_
  refine sq 5 [(true, 0), (true, 1), (true, 2), (true, 3), (true, 4)] fun T hT => ?_
  refine tk ?_
  refine ck Tryz.call145 (fun w' hw => nzparse (idig s) n 0 _ HPN.out HPC.out (by omega)) ?_
  iterate 3 refine tk ?_
  refine nlS hT HF fun vw2 HG => ?_
  clear hT T HF
  go_wp2
  refine hK.out _ _ ?_; clear hK K
  show Code.wp _ _ _ _ _
  refine fH ((HG.out).al (b := vw2.heap.size) (by first | rfl | simp) (by decide)) fun Wx2 HF => ?_
  clear HG
  generalize vw2.heap.size = gx2 at *
  have HZ1 : Hid ((if false then -((n : Nat) : Int) else ((n : Nat) : Int)) = z) := Lib.hid (HZZ.out)
  have su1 : wl (Int.natAbs (z)) ≤ 600 := by have e := HZ1.out; first | omega | (rw [← e]; split <;> simp <;> omega)
  have lx2 := HF.out.c 1 rfl
  refine kS fun K hK => ?_
  refine sq 3 [(true, 0), (true, 1), (true, 2)] fun T hT => ?_
  iterate 2 refine tk ?_
  refine ck Tryz.call117 (fun w' hw => from_any false (n) (z) _ HZ1.out) ?_
  refine nlS hT HF fun vw3 HG => ?_
  clear hT T HF lx2
  go_wp2
  refine hK.out _ _ ?_; clear hK K
  show Code.wp _ _ _ _ _
  refine fH (((HG.out).al (b := vw3.heap.size) (by first | rfl | simp) (by decide)).er 1) fun Wx3 HF => ?_
  clear HG
  generalize vw3.heap.size = gx3 at *
  refine wp_seq ?_
  refine wp_block ?_
  refine kS fun K hK => ?_
  refine sq 3 [(true, 0), (true, 1), (true, 2)] fun T hT => ?_
  iterate 3 refine tk ?_
  refine nlS hT HF fun vw4 HG => ?_
  clear hT T HF
  go_wp2
  refine hK.out _ _ ?_; clear hK K
  show Code.wp _ _ _ _ _
  have HF := HG; clear HG
  refine wp_cond_false (by rfl) ?_
  have hd1 : decide ((z) < 0) = false := decide_eq_false (by have e9 := HZZ.out; omega)
  have lx3 := HF.out.c 1 rfl
  refine kS fun K hK => ?_
  refine sq 5 [(true, 0), (true, 1), (true, 2), (true, 3), (true, 4)] fun T hT => ?_
  iterate 5 refine tk ?_
  refine nlS hT HF fun vw5 HG => ?_
  clear hT T HF lx3
  go_wp2
  refine hK.out _ _ ?_; clear hK K
  show Code.wp _ _ _ _ _
  have HF := HG; clear HG
  clear hd1
  refine wp_cond_false (by rfl) ?_
  refine wp_skip ?_
  show Code.wp _ _ _ _ _
  have lx3 := HF.out.c 1 rfl
  refine kS fun K hK => ?_
  refine sq 1 [(true, 0)] fun T hT => ?_
  refine tk ?_
  refine nlS hT HF fun vw6 HG => ?_
  clear hT T HF lx3
  have lx0 := HG.out.c 0 rfl; have fx0 := HG.out.f 0 rfl
  have r0 := Gr.refl vw6
  go_wp2
  refine hK.out _ _ ?_; clear hK K
  show Code.wp _ _ _ _ _
  clear r0 lx0 fx0
  refine fH ((((HG.out).put2 0 0 rfl).put 0 2 _ rfl).er 1) fun Wx8 HF => ?_
  clear HG
  refine wp_ret ?_
  try simp only [Exit.then, Exit.inBlock]
  have lx0 := HF.out.c 0 rfl
  have r0 := Gr.refl Wx8
  exact bodyPost_ret (v := .tuple #[(.agg #[.int .u64 ((lo (Int.natAbs (z)) : Nat) : Int), .string (bg (Int.natAbs (z))), .bool (decide ((z) < 0))]), .int .i64 0]) (by simp [results, Tryz.results167, go_sem, lx0 _ r0]) rfl ⟨rfl, HF.out.1⟩

theorem iparse_any (s : ByteArray) (w : World) (hs : s.size ≤ 9223372036854775807) :
    Calls Tryz.prog 167 #[.string s] w fun e w' => e = .returned (.tuple #[(Value.agg #[.int .u64 ((lo (Int.natAbs (inum s)) : Nat) : Int), .string (bg (Int.natAbs (inum s))), .bool (decide ((inum s) < 0))]), .int .i64 (icode s)]) ∧ Below w.heap.size w w' := by
  have hz : (idig s).size ≤ 9223372036854775807 := Nat.le_trans (idig_size s) hs
  rcases pcode_cases (idig s) with hc | hc | hc
  · obtain ⟨n, hn⟩ : ∃ n, pnum (idig s) = n := ⟨_, rfl⟩
    have hw : wl n ≤ 600 := by rw [← hn]; exact Nat.le_trans (wl_le.2 (pnum_bp (idig s) 512 rfl)) (by decide)
    cases hb : ineg s
    · have h1 : icode s = 0 := icode_good hc (fun h => by rw [hb] at h; exact absurd h.1 (by decide))
      have h2 : inum s = ((n : Nat) : Int) := by rw [inum_good h1, hb, hn]; rfl
      rw [h1, h2]
      exact ip_false_n s w hz (Lib.hid hb) n _ (Lib.hid rfl) (Lib.hid hc) (Lib.hid hn) hw
    · by_cases h0 : n = 0
      · have h1 : icode s = 4 := icode_zero hc hb (by rw [hn, h0])
        have h2 : inum s = 0 := inum_bad (by rw [h1]; decide)
        rw [h1, h2]
        exact ip_true_z s w hz (Lib.hid hb) (Lib.hid hc) (Lib.hid (hn.trans h0))
      · have h1 : icode s = 0 := icode_good hc (fun h => h0 (by rw [← hn]; exact h.2))
        have h2 : inum s = -((n : Nat) : Int) := by rw [inum_good h1, hb, hn]; rfl
        rw [h1, h2]
        exact ip_true_n s w hz (Lib.hid hb) n _ (Lib.hid rfl) (Lib.hid hc) (Lib.hid hn) (by omega) hw
  all_goals
    have hn := pnum_zero (s := idig s) (by rw [hc]; decide)
    have h1 := (icode_bad (s := s) (by rw [hc]; decide)).trans hc
    have h2 : inum s = 0 := inum_bad (by rw [h1]; decide)
    rw [h1, h2]
    cases hb : ineg s
  · exact ip_false_3 s w hz (Lib.hid hb) (Lib.hid hc) (Lib.hid hn)
  · exact ip_true_3 s w hz (Lib.hid hb) (Lib.hid hc) (Lib.hid hn)
  · exact ip_false_4 s w hz (Lib.hid hb) (Lib.hid hc) (Lib.hid hn)
  · exact ip_true_4 s w hz (Lib.hid hb) (Lib.hid hc) (Lib.hid hn)

end Go.Proofs.YtgdibedgjndcoaaGreatDoor


/- ints.Parse in z-form. -/
namespace Go.Proofs.YtgdibedgjndcoaaGreatDoor
open Go.RowKit
set_option linter.unusedSimpArgs false
set_option linter.unusedVariables false
attribute [local go_sem ↓] Go.wp_at_zero Go.wp_at_succ
theorem ziparse (s : ByteArray) (a c : Int) (w : World) (ha : inum s = a) (hc : icode s = c) (hs : s.size ≤ 9223372036854775807) :
    Calls Tryz.prog 167 #[.string s] w fun e w' => e = .returned (.tuple #[(Value.agg #[.int .u64 ((lo (Int.natAbs (a)) : Nat) : Int), .string (bg (Int.natAbs (a))), .bool (decide ((a) < 0))]), .int .i64 c]) ∧ Below w.heap.size w w' := ha ▸ hc ▸ iparse_any s w hs

theorem itx_lit (a : Int) {n : Nat} {S : List UInt8} (h : (a = (n : Int))) (hd : Lib.decDigits n = S) : itx a = ⟨S.toArray⟩ := by
  unfold itx
  rw [if_neg (by omega), h, Int.natAbs_natCast, hd]

theorem itx_neg (a : Int) {n : Nat} {S : List UInt8} (h : a = -((n : Nat) : Int)) (hn : 0 < n) (hd : Lib.decDigits n = S) : itx a = ⟨(45 :: S).toArray⟩ := by
  have hl := itx_data a
  rw [if_pos (by omega), show a.natAbs = n by omega, hd] at hl
  generalize itx a = t at hl
  cases t
  congr 1
  exact Array.toList_inj.1 hl

end Go.Proofs.YtgdibedgjndcoaaGreatDoor
