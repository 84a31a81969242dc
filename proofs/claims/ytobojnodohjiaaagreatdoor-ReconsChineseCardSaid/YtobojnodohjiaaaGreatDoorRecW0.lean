
/- gussetlaw07: of, frac, back, joined. -/
import Derived.Test.YtobojnodohjiaaaGreatDoorRecC
import Derived.Test.YtobojnodohjiaaaGreatDoorRecE
import Derived.Test.YtobojnodohjiaaaGreatDoorHp2
import Derived.Test.YtobojnodohjiaaaGreatDoorRsP
namespace Go.Proofs.YtobojnodohjiaaaGreatDoor
open Go.RowKit
set_option linter.unusedSimpArgs false
set_option linter.unusedVariables false
attribute [local go_sem ↓] Go.wp_at_zero Go.wp_at_succ
attribute [local go_sem ↓] eq_nat eq_nat_zero eq_int
attribute [local go_sem ↓] eq_nat eq_nat_zero eq_frac eq_frac_zero
theorem rs0 (w : World) (f : Nat → Int × Nat) : Rs w (.slice none 0 0) 0 f := .inl ⟨none, 0, rfl, rfl⟩
theorem info_Rest : (Tryz.prog.info? 71).map (fun i => (i.zero, i.size, i.bytes)) = some (some (.agg #[.int .u64 0, .string ⟨#[]⟩, .bool false, .int .u64 0, .string ⟨#[]⟩]), 5, 56) := by kernel_rfl
theorem rsz2 {r1 r2 : Int} {m1 m2 : Nat} (h1 : wl r1.natAbs ≤ 2) (h2 : wl r2.natAbs ≤ 2) (h3 : wl m1 ≤ 1) (h4 : wl m2 ≤ 1) : ∀ i, i < 2 → wl (f2r r1 m1 r2 m2 i).1.natAbs ≤ 100 ∧ wl (f2r r1 m1 r2 m2 i).2 ≤ 10 :=
  lt_two (P := fun i => wl (f2r r1 m1 r2 m2 i).1.natAbs ≤ 100 ∧ wl (f2r r1 m1 r2 m2 i).2 ≤ 10) ⟨Nat.le_trans h1 (by decide), Nat.le_trans h3 (by decide)⟩ ⟨Nat.le_trans h2 (by decide), Nat.le_trans h4 (by decide)⟩

theorem zftextr (q : Rat) (s : ByteArray) (w : World) (h : ftx q = s) (hs : sz q ≤ 100000) (HT : Hid (Tab w)) :
    Calls Tryz.prog 153 #[(Value.agg #[.int .u64 ((lo (Int.natAbs ((q).num)) : Nat) : Int), .string (bg (Int.natAbs ((q).num))), .bool (decide (((q).num) < 0)), .int .u64 ((lo ((q).den - 1) : Nat) : Int), .string (bg ((q).den - 1))])] w fun e w' => e = .returned (.string s) ∧ Below w.heap.size w w' := h ▸ ftext_any q w hs HT

set_option maxRecDepth 20000 in
set_option maxHeartbeats 4000000 in
theorem ro7_any (r : Int) (m : Nat) (w : World) (h1 : -9223372036854775808 ≤ r) (h2 : r ≤ 9223372036854775807) (h3 : m < 4294967296) :
    Calls Tryz.prog 28 #[(Value.agg #[.int .i64 (r), .int .u32 (((m : Nat) : Int))])] w fun e w' => e = .returned ((.agg #[.int .u64 ((lo (Int.natAbs (r)) : Nat) : Int), .string (bg (Int.natAbs (r))), .bool (decide ((r) < 0)), .int .u64 ((lo (m) : Nat) : Int), .string (bg (m))])) ∧ Below w.heap.size w w' := by
  have hwl1 : wl m ≤ 1 := wl_small h3
  have hwm : IntKind.u64.wrap ((m : Nat) : Int) = ((m : Nat) : Int) := by rw [IntKind.wrap_u64]; omega
  go_enter Tryz.func28, Tryz.ntmps28
  have HF := Lib.hid (hp0 w)
  refine kS fun K hK => ?_
  refine wp_region_lit ?_
  go_wp2
  refine hK.out _ _ ?_; clear hK K
  show Code.wp _ _ _ _ _
  refine fH (((HF.out).al (b := w.heap.size) (by first | rfl | simp) (by decide)).al (b := w.heap.size + 1) (by first | rfl | simp) (by decide)) fun Wx0 HG => ?_
  clear HF; have HF := HG; clear HG
  generalize w.heap.size + 1 = gx1 at *
  have su1 : wl (Int.natAbs (r)) ≤ 2 := wl_i64 om om
  have lx0 := HF.out.c 0 rfl
  refine kS fun K hK => ?_
  refine pd 8 [(true, 0), (true, 1), (true, 3), (true, 4), (true, 5), (true, 2), (true, 6), (true, 7)] fun T hT => ?_
  iterate 5 refine tk ?_
  refine ck Tryz.call23 (fun w' hw => iof_any (r) _ om om) ?_
  refine ck Tryz.call24 (fun w' hw => nzof (m) _ (ok)) ?_
  refine tk ?_
  refine nlD hT HF fun vw1 HG => ?_
  clear hT T HF lx0
  have lx1 := HG.out.c 1 rfl; have fx1 := HG.out.f 1 rfl
  have r0 := Gr.refl vw1
  go_wp2
  refine hK.out _ _ ?_; clear hK K
  show Code.wp _ _ _ _ _
  clear r0 lx1 fx1
  refine fH (((((HG.out).put2 1 0 rfl).put2 1 2 rfl).put 1 4 _ rfl).er 0) fun Wx1 HF => ?_
  clear HG
  refine wp_ret ?_
  try simp only [Exit.then, Exit.inBlock]
  have lx1 := HF.out.c 0 rfl
  have r0 := Gr.refl Wx1
  exact bodyPost_ret (v := .agg #[.int .u64 ((lo (Int.natAbs (r)) : Nat) : Int), .string (bg (Int.natAbs (r))), .bool (decide ((r) < 0)), .int .u64 ((lo (m) : Nat) : Int), .string (bg (m))]) (by simp [results, Tryz.results28, go_sem, lx1 _ r0]) rfl ⟨rfl, HF.out.1⟩

set_option maxRecDepth 20000 in
set_option maxHeartbeats 4000000 in
theorem ofr_any (n d : Int) (z : Rat) (w : World) (HZ : Hid ((n : Rat) / (d : Rat) = z)) (hd : d ≠ 0) (h1 : -9223372036854775808 ≤ n) (h2 : n ≤ 9223372036854775807) (h3 : -9223372036854775808 ≤ d) (h4 : d ≤ 9223372036854775807) :
    Calls Tryz.prog 26 #[.int .i64 (n), .int .i64 (d)] w fun e w' => e = .returned (.agg #[.int .u64 ((lo (Int.natAbs ((z).num)) : Nat) : Int), .string (bg (Int.natAbs ((z).num))), .bool (decide (((z).num) < 0)), .int .u64 ((lo ((z).den - 1) : Nat) : Int), .string (bg ((z).den - 1))]) ∧ Below w.heap.size w w' := by
  go_enter Tryz.func26, Tryz.ntmps26
  have HF := Lib.hid (hp0 w)
  refine kS fun K hK => ?_
  refine wp_region_lit ?_
  go_wp2
  refine hK.out _ _ ?_; clear hK K
  show Code.wp _ _ _ _ _
  refine fH ((HF.out).al (b := w.heap.size) (by first | rfl | simp) (by decide)) fun Wx0 HG => ?_
  clear HF; have HF := HG; clear HG
  have HZ1 : Hid (((n : Int) : Rat) / ((d : Int) : Rat) = z) := Lib.hid (HZ.out)
  have su1 : sz (z) ≤ 4 := by have e := HZ1.out; first | omega | (rw [← e]; exact sz_quot (n) (d) om om om om)
  refine kS fun K hK => ?_
  refine sq 6 [(true, 0), (true, 1), (true, 2), (true, 3), (true, 4), (true, 5)] fun T hT => ?_
  iterate 2 refine tk ?_
  refine ck Tryz.call104 (fun w' hw => fof_any (n) (d) (z) _ HZ1.out (by first | decide | omega) om om om om) ?_
  iterate 3 refine tk ?_
  refine nlS hT HF fun vw1 HG => ?_
  clear hT T HF
  go_wp2
  refine hK.out _ _ ?_; clear hK K
  show Code.wp _ _ _ _ _
  refine fH ((HG.out).al (b := vw1.heap.size) (by first | rfl | simp) (by decide)) fun Wx1 HF => ?_
  clear HG
  generalize vw1.heap.size = gx2 at *
  have lx2 := HF.out.c 1 rfl
  refine kS fun K hK => ?_
  refine sq 1 [(true, 0)] fun T hT => ?_
  refine tk ?_
  refine nlS hT HF fun vw2 HG => ?_
  clear hT T HF lx2
  have lx0 := HG.out.c 0 rfl; have fx0 := HG.out.f 0 rfl
  have r0 := Gr.refl vw2
  go_wp2
  refine hK.out _ _ ?_; clear hK K
  show Code.wp _ _ _ _ _
  clear r0 lx0 fx0
  refine fH (((((HG.out).put2 0 0 rfl).put2 0 2 rfl).put 0 4 _ rfl).er 1) fun Wx2 HF => ?_
  clear HG
  refine wp_ret ?_
  try simp only [Exit.then, Exit.inBlock]
  have lx0 := HF.out.c 0 rfl
  have r0 := Gr.refl Wx2
  exact bodyPost_ret (v := .agg #[.int .u64 ((lo (Int.natAbs ((z).num)) : Nat) : Int), .string (bg (Int.natAbs ((z).num))), .bool (decide (((z).num) < 0)), .int .u64 ((lo ((z).den - 1) : Nat) : Int), .string (bg ((z).den - 1))]) (by simp [results, Tryz.results26, go_sem, lx0 _ r0]) rfl ⟨rfl, HF.out.1⟩

set_option maxRecDepth 20000 in
set_option maxHeartbeats 4000000 in
theorem bkt_ok (a : Int) (m : Nat) (z : Rat) (t : ByteArray) (w : World) (HBX : Hid (bk a m z true)) (HTX : Hid (ftx z = t)) (h1 : -9223372036854775808 ≤ a) (h2 : a ≤ 9223372036854775807) (h3 : m < 18446744073709551616) (hwm2 : wl m ≤ 2) (HT : Hid (Tab w)) :
    Calls Tryz.prog 105 #[.int .i64 (a), .int .u64 (((m : Nat) : Int))] w fun e w' => e = .returned ((.string t)) ∧ Below w.heap.size w w' := by
  go_enter Tryz.func105, Tryz.ntmps105
  have HF := Lib.hid (hp0 w)
  refine kS fun K hK => ?_
  refine wp_region_lit ?_
  go_wp2
  refine hK.out _ _ ?_; clear hK K
  show Code.wp _ _ _ _ _
  refine fH (HF.out) fun Wx0 HG => ?_
  clear HF; have HF := HG; clear HG
  have su1 : wl (Int.natAbs (a)) ≤ 2 := wl_i64 om om
  have su2 : sz (z) ≤ 2 := bk_size (HBX.out) om (by decide)
  refine kS fun K hK => ?_
  refine sq 8 [(true, 0), (true, 1), (true, 2), (true, 3), (true, 4), (true, 5), (true, 6), (true, 7)] fun T hT => ?_
  refine tk ?_
  refine ck Tryz.call23 (fun w' hw => iof_any (a) _ om om) ?_
  refine tk ?_
  refine ck Tryz.call24 (fun w' hw => nzof (m) _ (ok)) ?_
  refine ck Tryz.call22 (fun w' hw => rback (a) (m) (z) true _ (HBX.out) om om) ?_
  iterate 3 refine tk ?_
  refine nlS hT HF fun vw1 HG => ?_
  clear hT T HF
  go_wp2
  refine hK.out _ _ ?_; clear hK K
  show Code.wp _ _ _ _ _
  refine fH ((HG.out).al (b := vw1.heap.size) (by first | rfl | simp) (by decide)) fun Wx1 HF => ?_
  clear HG
  generalize vw1.heap.size = gx1 at *
  refine wp_seq ?_
  refine kS fun K hK => ?_
  refine sq 2 [(true, 0), (true, 1)] fun T hT => ?_
  iterate 2 refine tk ?_
  refine nlS hT HF fun vw2 HG => ?_
  clear hT T HF
  go_wp2
  refine hK.out _ _ ?_; clear hK K
  show Code.wp _ _ _ _ _
  have HF := HG; clear HG
  refine wp_cond_false (by rfl) ?_
  refine wp_skip ?_
  show Code.wp _ _ _ _ _
  have HB := HPb HF
  have lx1 := HF.out.c 0 rfl
  refine kS fun K hK => ?_
  refine sq 3 [(true, 0), (true, 1), (true, 2)] fun T hT => ?_
  refine tk ?_
  refine ck Tryz.call153 (fun w' hw => zftextr (z) t _ HTX.out om (Lib.hid (HT.out.gr (Gr.trans HB.out hw)))) ?_
  refine tk ?_
  refine nlS hT HF fun vw3 HG => ?_
  clear hT T HF lx1 HB
  go_wp2
  refine hK.out _ _ ?_; clear hK K
  show Code.wp _ _ _ _ _
  refine fH ((HG.out).er 0) fun Wx4 HF => ?_
  clear HG
  refine wp_ret ?_
  try simp only [Exit.then, Exit.inBlock]
  exact bodyPost_ret (v := .string t) (by simp [results, Tryz.results105, go_sem]) rfl ⟨rfl, HF.out.1⟩

set_option maxRecDepth 20000 in
set_option maxHeartbeats 4000000 in
theorem bkt_no (a : Int) (m : Nat) (w : World) (HBX : Hid (bk a m 0 false)) (h1 : -9223372036854775808 ≤ a) (h2 : a ≤ 9223372036854775807) (h3 : m < 18446744073709551616) (hwm2 : wl m ≤ 2) :
    Calls Tryz.prog 105 #[.int .i64 (a), .int .u64 (((m : Nat) : Int))] w fun e w' => e = .returned ((.string ⟨#[110, 111, 110, 101]⟩)) ∧ Below w.heap.size w w' := by
  go_enter Tryz.func105, Tryz.ntmps105
  have HF := Lib.hid (hp0 w)
  refine kS fun K hK => ?_
  refine wp_region_lit ?_
  go_wp2
  refine hK.out _ _ ?_; clear hK K
  show Code.wp _ _ _ _ _
  refine fH (HF.out) fun Wx0 HG => ?_
  clear HF; have HF := HG; clear HG
  have su1 : wl (Int.natAbs (a)) ≤ 2 := wl_i64 om om
  refine kS fun K hK => ?_
  refine sq 8 [(true, 0), (true, 1), (true, 2), (true, 3), (true, 4), (true, 5), (true, 6), (true, 7)] fun T hT => ?_
  refine tk ?_
  refine ck Tryz.call23 (fun w' hw => iof_any (a) _ om om) ?_
  refine tk ?_
  refine ck Tryz.call24 (fun w' hw => nzof (m) _ (ok)) ?_
  refine ck Tryz.call22 (fun w' hw => rback (a) (m) 0 false _ (HBX.out) om om) ?_
  iterate 3 refine tk ?_
  refine nlS hT HF fun vw1 HG => ?_
  clear hT T HF
  go_wp2
  refine hK.out _ _ ?_; clear hK K
  show Code.wp _ _ _ _ _
  refine fH ((HG.out).al (b := vw1.heap.size) (by first | rfl | simp) (by decide)) fun Wx1 HF => ?_
  clear HG
  generalize vw1.heap.size = gx1 at *
  refine wp_seq ?_
  refine kS fun K hK => ?_
  refine sq 2 [(true, 0), (true, 1)] fun T hT => ?_
  iterate 2 refine tk ?_
  refine nlS hT HF fun vw2 HG => ?_
  clear hT T HF
  go_wp2
  refine hK.out _ _ ?_; clear hK K
  show Code.wp _ _ _ _ _
  have HF := HG; clear HG
  refine wp_cond_true (by rfl) ?_
  refine kS fun K hK => ?_
  refine wp_region_lit ?_
  go_wp2
  refine hK.out _ _ ?_; clear hK K
  show Code.wp _ _ _ _ _
  refine fH (HF.out) fun Wx3 HG => ?_
  clear HF; have HF := HG; clear HG
  refine wp_ret ?_
  try simp only [Exit.then, Exit.inBlock]
  exact bodyPost_ret (v := .string ⟨#[110, 111, 110, 101]⟩) (by simp [results, Tryz.results105, go_sem]) rfl ⟨rfl, HF.out.1⟩

set_option maxRecDepth 20000 in
set_option maxHeartbeats 8000000 in
theorem joined_2 (r1 r2 : Int) (m1 m2 g : Nat) (R : Int) (M : Nat) (tr tm t1 t : ByteArray) (w : World) (bx9 : Bx w g 69 #[.int .i64 (r1), .int .u32 (((m1 : Nat) : Int)), .int .i64 (r2), .int .u32 (((m2 : Nat) : Int))]) (h11 : -9223372036854775808 ≤ r1) (h12 : r1 ≤ 9223372036854775807) (h13 : m1 < 4294967296) (h21 : -9223372036854775808 ≤ r2) (h22 : r2 ≤ 9223372036854775807) (h23 : m2 < 4294967296) (HCV : Hid (chv (f2r r1 m1 r2 m2) 2 R M 0)) (hwR : wl R.natAbs ≤ 20) (hwM : wl M ≤ 20) (HTR : Hid (itx R = tr)) (HTM : Hid ((⟨(Lib.decDigits M).toArray⟩ : ByteArray) = tm)) (HT1 : Hid (tr ++ (⟨#[32, 98, 121, 32]⟩ : ByteArray) = t1)) (HT2 : Hid (t1 ++ tm = t)) (hl1 : tr.size ≤ 1000) (hl2 : t1.size ≤ 1000) (hl3 : tm.size ≤ 1000) (HT : Hid (Tab w)) :
    Calls Tryz.prog 106 #[.slice (some ⟨g, 0, none⟩) 2 2] w fun e w' => e = .returned ((.string t)) ∧ Below w.heap.size w w' := by
  have hwu1 : IntKind.u64.wrap ((m1 : Nat) : Int) = ((m1 : Nat) : Int) := by rw [IntKind.wrap_u64]; omega
  have hwu2 : IntKind.u64.wrap ((m2 : Nat) : Int) = ((m2 : Nat) : Int) := by rw [IntKind.wrap_u64]; omega
  have hw1 : IntKind.i64.wrap 1 = 1 := by decide
  have hw2 : IntKind.i64.wrap 2 = 2 := by decide
  go_enter Tryz.func106, Tryz.ntmps106
  have HF := Lib.hid (hp0 w)
  have BX9 := Lib.hid bx9; clear bx9
  refine kS fun K hK => ?_
  refine wp_region_lit ?_
  go_wp2
  refine hK.out _ _ ?_; clear hK K
  show Code.wp _ _ _ _ _
  refine fH (HF.out) fun Wx0 HG => ?_
  clear HF; have HF := HG; clear HG
  refine kS fun K hK => ?_
  refine wp_region_lit ?_
  go_wp2
  refine hK.out _ _ ?_; clear hK K
  show Code.wp _ _ _ _ _
  refine fH (HF.out) fun Wx1 HG => ?_
  clear HF; have HF := HG; clear HG
  refine wp_seq ?_
  refine kS fun K hK => ?_
  refine wp_region_lit ?_
  go_wp2
  refine hK.out _ _ ?_; clear hK K
  show Code.wp _ _ _ _ _
  refine fH (HF.out) fun Wx2 HG => ?_
  clear HF; have HF := HG; clear HG
  refine wp_block ?_
  refine wp_loop_rounds 4 ?_
  rw [rounds_succ]
  refine wp_seq ?_
  refine kS fun K hK => ?_
  refine sq 4 [(true, 0), (true, 1), (true, 2), (true, 3)] fun T hT => ?_
  iterate 4 refine tk ?_
  refine nlS hT HF fun vw1 HG => ?_
  clear hT T HF
  go_wp2
  refine hK.out _ _ ?_; clear hK K
  show Code.wp _ _ _ _ _
  have HF := HG; clear HG
  refine wp_cond_true (by rfl) ?_
  refine wp_skip ?_
  show Code.wp _ _ _ _ _
  refine wp_seq ?_
  refine wp_block ?_
  have su1a : wl (Int.natAbs (r1)) ≤ 2 := wl_i64 om om
  have su1b : wl (m1) ≤ 1 := wl_small (by omega)
  have lx9 := (BX9.out.gr HF.out.1).cells
  refine kL fun K hK => ?_
  have HG0 : Hid (Gr vw1 vw1) := Lib.hid (Gr.refl _)
  refine sq 7 [(true, 0), (true, 1), (true, 2), (true, 3), (true, 4), (true, 5), (false, 6)] fun T hT => ?_
  iterate 5 refine tk ?_
  refine ck Tryz.call28 (fun w' hw => ro7_any (r1) (m1) _ (by omega) (by omega) (by omega)) ?_
  refine wpPlan_slice (cs := #[.int .u64 ((lo (Int.natAbs (r1)) : Nat) : Int), .string (bg (Int.natAbs (r1))), .bool (decide ((r1) < 0)), .int .u64 ((lo (m1) : Nat) : Int), .string (bg (m1))]) (E := 71) (n := 1) rfl (by rfl) (fun w' hw => ?_) (fun gx11 vv11 hg0 yx11 bx11 => ?_)
  · go_simp
  have YX11 := Lib.hid (Nat.le_trans HG0.out.size yx11)
  clear yx11
  replace HG0 := Lib.hid (HG0.out.trans hg0)
  have HGS := Lib.hid hg0; clear hg0
  clear HGS
  have BX11 := Lib.hid bx11; clear bx11
  clear lx9; have lx9 := fun w' (h : Gr _ w') => (BX9.out.gr HF.out.1).cells w' (HG0.out.trans h)
  simp only [Act.put, lA, lB, lC]
  refine wpPlan_nil (hT.out _ _ ?_)
  intro vw2 hg
  simp only [puts, Act.put, lA, lB, lC, lD, lE, ↓reduceIte, Nat.reduceEqDiff]
  have HG := Lib.hid (HF.out.grS (HG0.out.trans hg) YX11.out (BX11.out.gr hg) (by decide))
  simp only [List.zip_cons_cons, List.zip_nil_right, List.map_cons, List.map_nil, lF, lG] at HG
  clear hT T HF hg HG0 BX11 lx9
  clear YX11
  obtain ⟨ai1, ah1, az1, as1, ab1⟩ := info_parts (info_Rest)
  refine apN (m := 1) (c := 1) HG 0 (.tmp 13) (.tmp 19) 67 ah1 az1 as1 ab1 rfl Tryz.underlying67 (by unfold maxLen; omega) (by omega) (fun bR1 cR1 vR1 vw2a HF RV1 => ?_)
  clear HG; have HG := HF; clear HF
  simp only [Act.put, lA, lB, lC, List.cons_append, List.nil_append, List.append_eq, List.eraseIdx_cons_zero, List.eraseIdx_cons_succ]
  simp only [List.cons_append, List.nil_append, List.eraseIdx_cons_zero, List.eraseIdx_cons_succ] at HG
  go_wp2
  refine hK.out _ _ ?_; clear hK K
  show Code.wp _ _ _ _ _
  have HF := HG; clear HG
  refine kL fun K hK => ?_
  refine sq 3 [(true, 0), (true, 1), (true, 2)] fun T hT => ?_
  iterate 3 refine tk ?_
  refine nlS hT HF fun vw3 HG => ?_
  clear hT T HF
  go_wp2
  refine hK.out _ _ ?_; clear hK K
  show Code.rounds _ _ _ _ _ _
  rw [rounds_succ]
  have HF := HG; clear HG
  refine wp_seq ?_
  refine kS fun K hK => ?_
  refine sq 4 [(true, 0), (true, 1), (true, 2), (true, 3)] fun T hT => ?_
  iterate 4 refine tk ?_
  refine nlS hT HF fun vw4 HG => ?_
  clear hT T HF
  go_wp2
  refine hK.out _ _ ?_; clear hK K
  show Code.wp _ _ _ _ _
  have HF := HG; clear HG
  refine wp_cond_true (by rfl) ?_
  refine wp_skip ?_
  show Code.wp _ _ _ _ _
  refine wp_seq ?_
  refine wp_block ?_
  have su2a : wl (Int.natAbs (r2)) ≤ 2 := wl_i64 om om
  have su2b : wl (m2) ≤ 1 := wl_small (by omega)
  have lx9 := (BX9.out.gr HF.out.1).cells
  refine kL fun K hK => ?_
  have HG0 : Hid (Gr vw4 vw4) := Lib.hid (Gr.refl _)
  refine sq 7 [(true, 0), (true, 1), (true, 2), (true, 3), (true, 4), (true, 5), (false, 6)] fun T hT => ?_
  iterate 5 refine tk ?_
  refine ck Tryz.call28 (fun w' hw => ro7_any (r2) (m2) _ (by omega) (by omega) (by omega)) ?_
  refine wpPlan_slice (cs := #[.int .u64 ((lo (Int.natAbs (r2)) : Nat) : Int), .string (bg (Int.natAbs (r2))), .bool (decide ((r2) < 0)), .int .u64 ((lo (m2) : Nat) : Int), .string (bg (m2))]) (E := 71) (n := 1) rfl (by rfl) (fun w' hw => ?_) (fun gx13 vv13 hg0 yx13 bx13 => ?_)
  · go_simp
  have YX13 := Lib.hid (Nat.le_trans HG0.out.size yx13)
  clear yx13
  replace HG0 := Lib.hid (HG0.out.trans hg0)
  have HGS := Lib.hid hg0; clear hg0
  clear HGS
  have BX13 := Lib.hid bx13; clear bx13
  clear lx9; have lx9 := fun w' (h : Gr _ w') => (BX9.out.gr HF.out.1).cells w' (HG0.out.trans h)
  simp only [Act.put, lA, lB, lC]
  refine wpPlan_nil (hT.out _ _ ?_)
  intro vw5 hg
  simp only [puts, Act.put, lA, lB, lC, lD, lE, ↓reduceIte, Nat.reduceEqDiff]
  have HG := Lib.hid (HF.out.grS (HG0.out.trans hg) YX13.out (BX13.out.gr hg) (by decide))
  simp only [List.zip_cons_cons, List.zip_nil_right, List.map_cons, List.map_nil, lF, lG] at HG
  clear hT T HF hg HG0 BX13 lx9
  clear YX13
  obtain ⟨ai2, ah2, az2, as2, ab2⟩ := info_parts (info_Rest)
  refine apS (m := 1) (c := 1) HG RV1 1 2 (.tmp 13) (.tmp 19) 67 ah2 az2 as2 ab2 rfl Tryz.underlying67 (by unfold maxLen; omega) (by omega) (fun bR2 cR2 vR2 vw5a HF RV2 => ?_)
  clear HG RV1; have HG := HF; clear HF
  simp only [Act.put, lA, lB, lC, List.cons_append, List.nil_append, List.append_eq, List.eraseIdx_cons_zero, List.eraseIdx_cons_succ]
  simp only [List.cons_append, List.nil_append, List.eraseIdx_cons_zero, List.eraseIdx_cons_succ] at HG RV2
  go_wp2
  refine hK.out _ _ ?_; clear hK K
  show Code.wp _ _ _ _ _
  refine fH ((HG.out).er 0) fun Wx5 HF => ?_
  clear HG
  refine kL fun K hK => ?_
  refine sq 3 [(true, 0), (true, 1), (true, 2)] fun T hT => ?_
  iterate 3 refine tk ?_
  refine nlS hT HF fun vw6 HG => ?_
  clear hT T HF
  go_wp2
  refine hK.out _ _ ?_; clear hK K
  show Code.rounds _ _ _ _ _ _
  rw [rounds_succ]
  have HF := HG; clear HG
  refine wp_seq ?_
  refine kS fun K hK => ?_
  refine sq 4 [(true, 0), (true, 1), (true, 2), (true, 3)] fun T hT => ?_
  iterate 4 refine tk ?_
  refine nlS hT HF fun vw7 HG => ?_
  clear hT T HF
  go_wp2
  refine hK.out _ _ ?_; clear hK K
  show Code.wp _ _ _ _ _
  have HF := HG; clear HG
  refine wp_cond_false (by rfl) ?_
  refine wp_exit ?_
  show Code.wp _ _ _ _ _
  have su3a : wl (Int.natAbs (R)) ≤ 20 := om
  have su3b : wl (M) ≤ 20 := om
  refine kS fun K hK => ?_
  refine sq 5 [(true, 0), (true, 1), (true, 2), (true, 3), (true, 4)] fun T hT => ?_
  refine tk ?_
  refine ck Tryz.call29 (fun w' hw => rchinese _ 2 (f2r r1 m1 r2 m2) (R) (M) (0) _ HCV.out (rowv_rs (f := (f2r r1 m1 r2 m2)) RV2.out ((HF.out.bx 1 rfl).gr hw)) (by omega) (rsz2 om om om om)) ?_
  iterate 3 refine tk ?_
  refine nlS hT HF fun vw8 HG => ?_
  clear hT T HF
  go_wp2
  refine hK.out _ _ ?_; clear hK K
  show Code.wp _ _ _ _ _
  refine fH ((((HG.out).al (b := vw8.heap.size) (by first | rfl | simp) (by decide)).er 1).er 0) fun Wx6 HF => ?_
  clear HG
  generalize vw8.heap.size = gx15 at *
  refine wp_seq ?_
  refine kS fun K hK => ?_
  refine sq 2 [(true, 0), (true, 1)] fun T hT => ?_
  iterate 2 refine tk ?_
  refine nlS hT HF fun vw9 HG => ?_
  clear hT T HF
  go_wp2
  refine hK.out _ _ ?_; clear hK K
  show Code.wp _ _ _ _ _
  have HF := HG; clear HG
  refine wp_cond_false (by rfl) ?_
  refine wp_skip ?_
  show Code.wp _ _ _ _ _
  have HB := HPb HF
  have hlen1 : ¬ (9223372036854775807 < tr.size + 4) := by omega
  have hcat1 : tr ++ (⟨#[32, 98, 121, 32]⟩ : ByteArray) = t1 := HT1.out
  have hlen2 : ¬ (9223372036854775807 < t1.size + tm.size) := by omega
  have hcat2 : t1 ++ tm = t := HT2.out
  have lx15 := HF.out.c 0 rfl
  refine kS fun K hK => ?_
  refine pd 8 [(true, 0), (true, 1), (true, 4), (true, 5), (true, 2), (true, 3), (true, 6), (true, 7)] fun T hT => ?_
  iterate 4 refine tk ?_
  refine ck Tryz.call141 (fun w' hw => zitext (R) tr _ HTR.out om (Lib.hid (HT.out.gr (Gr.trans HB.out hw)))) ?_
  refine tk ?_
  refine ck Tryz.call154 (fun w' hw => nztexts (M) tm _ HTM.out om (Lib.hid (HT.out.gr (Gr.trans HB.out hw)))) ?_
  refine tk ?_
  refine nlD hT HF fun vw10 HG => ?_
  clear hT T HF lx15 HB
  go_wp2
  refine hK.out _ _ ?_; clear hK K
  show Code.wp _ _ _ _ _
  refine fH ((HG.out).er 0) fun Wx9 HF => ?_
  clear HG
  clear hlen1 hcat1 hlen2 hcat2
  refine wp_ret ?_
  try simp only [Exit.then, Exit.inBlock]
  exact bodyPost_ret (v := .string t) (by simp [results, Tryz.results106, go_sem]) rfl ⟨rfl, HF.out.1⟩

set_option maxRecDepth 20000 in
set_option maxHeartbeats 8000000 in
theorem joined_2n (r1 r2 : Int) (m1 m2 g : Nat) (w : World) (bx9 : Bx w g 69 #[.int .i64 (r1), .int .u32 (((m1 : Nat) : Int)), .int .i64 (r2), .int .u32 (((m2 : Nat) : Int))]) (h11 : -9223372036854775808 ≤ r1) (h12 : r1 ≤ 9223372036854775807) (h13 : m1 < 4294967296) (h21 : -9223372036854775808 ≤ r2) (h22 : r2 ≤ 9223372036854775807) (h23 : m2 < 4294967296) (HCV : Hid (chv (f2r r1 m1 r2 m2) 2 0 0 6)) :
    Calls Tryz.prog 106 #[.slice (some ⟨g, 0, none⟩) 2 2] w fun e w' => e = .returned ((.string ⟨#[110, 111, 110, 101]⟩)) ∧ Below w.heap.size w w' := by
  have hwu1 : IntKind.u64.wrap ((m1 : Nat) : Int) = ((m1 : Nat) : Int) := by rw [IntKind.wrap_u64]; omega
  have hwu2 : IntKind.u64.wrap ((m2 : Nat) : Int) = ((m2 : Nat) : Int) := by rw [IntKind.wrap_u64]; omega
  have hw1 : IntKind.i64.wrap 1 = 1 := by decide
  have hw2 : IntKind.i64.wrap 2 = 2 := by decide
  go_enter Tryz.func106, Tryz.ntmps106
  have HF := Lib.hid (hp0 w)
  have BX9 := Lib.hid bx9; clear bx9
  refine kS fun K hK => ?_
  refine wp_region_lit ?_
  go_wp2
  refine hK.out _ _ ?_; clear hK K
  show Code.wp _ _ _ _ _
  refine fH (HF.out) fun Wx0 HG => ?_
  clear HF; have HF := HG; clear HG
  refine kS fun K hK => ?_
  refine wp_region_lit ?_
  go_wp2
  refine hK.out _ _ ?_; clear hK K
  show Code.wp _ _ _ _ _
  refine fH (HF.out) fun Wx1 HG => ?_
  clear HF; have HF := HG; clear HG
  refine wp_seq ?_
  refine kS fun K hK => ?_
  refine wp_region_lit ?_
  go_wp2
  refine hK.out _ _ ?_; clear hK K
  show Code.wp _ _ _ _ _
  refine fH (HF.out) fun Wx2 HG => ?_
  clear HF; have HF := HG; clear HG
  refine wp_block ?_
  refine wp_loop_rounds 4 ?_
  rw [rounds_succ]
  refine wp_seq ?_
  refine kS fun K hK => ?_
  refine sq 4 [(true, 0), (true, 1), (true, 2), (true, 3)] fun T hT => ?_
  iterate 4 refine tk ?_
  refine nlS hT HF fun vw1 HG => ?_
  clear hT T HF
  go_wp2
  refine hK.out _ _ ?_; clear hK K
  show Code.wp _ _ _ _ _
  have HF := HG; clear HG
  refine wp_cond_true (by rfl) ?_
  refine wp_skip ?_
  show Code.wp _ _ _ _ _
  refine wp_seq ?_
  refine wp_block ?_
  have su1a : wl (Int.natAbs (r1)) ≤ 2 := wl_i64 om om
  have su1b : wl (m1) ≤ 1 := wl_small (by omega)
  have lx9 := (BX9.out.gr HF.out.1).cells
  refine kL fun K hK => ?_
  have HG0 : Hid (Gr vw1 vw1) := Lib.hid (Gr.refl _)
  refine sq 7 [(true, 0), (true, 1), (true, 2), (true, 3), (true, 4), (true, 5), (false, 6)] fun T hT => ?_
  iterate 5 refine tk ?_
  refine ck Tryz.call28 (fun w' hw => ro7_any (r1) (m1) _ (by omega) (by omega) (by omega)) ?_
  refine wpPlan_slice (cs := #[.int .u64 ((lo (Int.natAbs (r1)) : Nat) : Int), .string (bg (Int.natAbs (r1))), .bool (decide ((r1) < 0)), .int .u64 ((lo (m1) : Nat) : Int), .string (bg (m1))]) (E := 71) (n := 1) rfl (by rfl) (fun w' hw => ?_) (fun gx11 vv11 hg0 yx11 bx11 => ?_)
  · go_simp
  have YX11 := Lib.hid (Nat.le_trans HG0.out.size yx11)
  clear yx11
  replace HG0 := Lib.hid (HG0.out.trans hg0)
  have HGS := Lib.hid hg0; clear hg0
  clear HGS
  have BX11 := Lib.hid bx11; clear bx11
  clear lx9; have lx9 := fun w' (h : Gr _ w') => (BX9.out.gr HF.out.1).cells w' (HG0.out.trans h)
  simp only [Act.put, lA, lB, lC]
  refine wpPlan_nil (hT.out _ _ ?_)
  intro vw2 hg
  simp only [puts, Act.put, lA, lB, lC, lD, lE, ↓reduceIte, Nat.reduceEqDiff]
  have HG := Lib.hid (HF.out.grS (HG0.out.trans hg) YX11.out (BX11.out.gr hg) (by decide))
  simp only [List.zip_cons_cons, List.zip_nil_right, List.map_cons, List.map_nil, lF, lG] at HG
  clear hT T HF hg HG0 BX11 lx9
  clear YX11
  obtain ⟨ai1, ah1, az1, as1, ab1⟩ := info_parts (info_Rest)
  refine apN (m := 1) (c := 1) HG 0 (.tmp 13) (.tmp 19) 67 ah1 az1 as1 ab1 rfl Tryz.underlying67 (by unfold maxLen; omega) (by omega) (fun bR1 cR1 vR1 vw2a HF RV1 => ?_)
  clear HG; have HG := HF; clear HF
  simp only [Act.put, lA, lB, lC, List.cons_append, List.nil_append, List.append_eq, List.eraseIdx_cons_zero, List.eraseIdx_cons_succ]
  simp only [List.cons_append, List.nil_append, List.eraseIdx_cons_zero, List.eraseIdx_cons_succ] at HG
  go_wp2
  refine hK.out _ _ ?_; clear hK K
  show Code.wp _ _ _ _ _
  have HF := HG; clear HG
  refine kL fun K hK => ?_
  refine sq 3 [(true, 0), (true, 1), (true, 2)] fun T hT => ?_
  iterate 3 refine tk ?_
  refine nlS hT HF fun vw3 HG => ?_
  clear hT T HF
  go_wp2
  refine hK.out _ _ ?_; clear hK K
  show Code.rounds _ _ _ _ _ _
  rw [rounds_succ]
  have HF := HG; clear HG
  refine wp_seq ?_
  refine kS fun K hK => ?_
  refine sq 4 [(true, 0), (true, 1), (true, 2), (true, 3)] fun T hT => ?_
  iterate 4 refine tk ?_
  refine nlS hT HF fun vw4 HG => ?_
  clear hT T HF
  go_wp2
  refine hK.out _ _ ?_; clear hK K
  show Code.wp _ _ _ _ _
  have HF := HG; clear HG
  refine wp_cond_true (by rfl) ?_
  refine wp_skip ?_
  show Code.wp _ _ _ _ _
  refine wp_seq ?_
  refine wp_block ?_
  have su2a : wl (Int.natAbs (r2)) ≤ 2 := wl_i64 om om
  have su2b : wl (m2) ≤ 1 := wl_small (by omega)
  have lx9 := (BX9.out.gr HF.out.1).cells
  refine kL fun K hK => ?_
  have HG0 : Hid (Gr vw4 vw4) := Lib.hid (Gr.refl _)
  refine sq 7 [(true, 0), (true, 1), (true, 2), (true, 3), (true, 4), (true, 5), (false, 6)] fun T hT => ?_
  iterate 5 refine tk ?_
  refine ck Tryz.call28 (fun w' hw => ro7_any (r2) (m2) _ (by omega) (by omega) (by omega)) ?_
  refine wpPlan_slice (cs := #[.int .u64 ((lo (Int.natAbs (r2)) : Nat) : Int), .string (bg (Int.natAbs (r2))), .bool (decide ((r2) < 0)), .int .u64 ((lo (m2) : Nat) : Int), .string (bg (m2))]) (E := 71) (n := 1) rfl (by rfl) (fun w' hw => ?_) (fun gx13 vv13 hg0 yx13 bx13 => ?_)
  · go_simp
  have YX13 := Lib.hid (Nat.le_trans HG0.out.size yx13)
  clear yx13
  replace HG0 := Lib.hid (HG0.out.trans hg0)
  have HGS := Lib.hid hg0; clear hg0
  clear HGS
  have BX13 := Lib.hid bx13; clear bx13
  clear lx9; have lx9 := fun w' (h : Gr _ w') => (BX9.out.gr HF.out.1).cells w' (HG0.out.trans h)
  simp only [Act.put, lA, lB, lC]
  refine wpPlan_nil (hT.out _ _ ?_)
  intro vw5 hg
  simp only [puts, Act.put, lA, lB, lC, lD, lE, ↓reduceIte, Nat.reduceEqDiff]
  have HG := Lib.hid (HF.out.grS (HG0.out.trans hg) YX13.out (BX13.out.gr hg) (by decide))
  simp only [List.zip_cons_cons, List.zip_nil_right, List.map_cons, List.map_nil, lF, lG] at HG
  clear hT T HF hg HG0 BX13 lx9
  clear YX13
  obtain ⟨ai2, ah2, az2, as2, ab2⟩ := info_parts (info_Rest)
  refine apS (m := 1) (c := 1) HG RV1 1 2 (.tmp 13) (.tmp 19) 67 ah2 az2 as2 ab2 rfl Tryz.underlying67 (by unfold maxLen; omega) (by omega) (fun bR2 cR2 vR2 vw5a HF RV2 => ?_)
  clear HG RV1; have HG := HF; clear HF
  simp only [Act.put, lA, lB, lC, List.cons_append, List.nil_append, List.append_eq, List.eraseIdx_cons_zero, List.eraseIdx_cons_succ]
  simp only [List.cons_append, List.nil_append, List.eraseIdx_cons_zero, List.eraseIdx_cons_succ] at HG RV2
  go_wp2
  refine hK.out _ _ ?_; clear hK K
  show Code.wp _ _ _ _ _
  refine fH ((HG.out).er 0) fun Wx5 HF => ?_
  clear HG
  refine kL fun K hK => ?_
  refine sq 3 [(true, 0), (true, 1), (true, 2)] fun T hT => ?_
  iterate 3 refine tk ?_
  refine nlS hT HF fun vw6 HG => ?_
  clear hT T HF
  go_wp2
  refine hK.out _ _ ?_; clear hK K
  show Code.rounds _ _ _ _ _ _
  rw [rounds_succ]
  have HF := HG; clear HG
  refine wp_seq ?_
  refine kS fun K hK => ?_
  refine sq 4 [(true, 0), (true, 1), (true, 2), (true, 3)] fun T hT => ?_
  iterate 4 refine tk ?_
  refine nlS hT HF fun vw7 HG => ?_
  clear hT T HF
  go_wp2
  refine hK.out _ _ ?_; clear hK K
  show Code.wp _ _ _ _ _
  have HF := HG; clear HG
  refine wp_cond_false (by rfl) ?_
  refine wp_exit ?_
  show Code.wp _ _ _ _ _
  refine kS fun K hK => ?_
  refine sq 5 [(true, 0), (true, 1), (true, 2), (true, 3), (true, 4)] fun T hT => ?_
  refine tk ?_
  refine ck Tryz.call29 (fun w' hw => rchinese _ 2 (f2r r1 m1 r2 m2) (0) (0) (6) _ HCV.out (rowv_rs (f := (f2r r1 m1 r2 m2)) RV2.out ((HF.out.bx 1 rfl).gr hw)) (by omega) (rsz2 om om om om)) ?_
  iterate 3 refine tk ?_
  refine nlS hT HF fun vw8 HG => ?_
  clear hT T HF
  go_wp2
  refine hK.out _ _ ?_; clear hK K
  show Code.wp _ _ _ _ _
  refine fH ((((HG.out).al (b := vw8.heap.size) (by first | rfl | simp) (by decide)).er 1).er 0) fun Wx6 HF => ?_
  clear HG
  generalize vw8.heap.size = gx15 at *
  refine wp_seq ?_
  refine kS fun K hK => ?_
  refine sq 2 [(true, 0), (true, 1)] fun T hT => ?_
  iterate 2 refine tk ?_
  refine nlS hT HF fun vw9 HG => ?_
  clear hT T HF
  go_wp2
  refine hK.out _ _ ?_; clear hK K
  show Code.wp _ _ _ _ _
  have HF := HG; clear HG
  refine wp_cond_true (by rfl) ?_
  refine kS fun K hK => ?_
  refine wp_region_lit ?_
  go_wp2
  refine hK.out _ _ ?_; clear hK K
  show Code.wp _ _ _ _ _
  refine fH (HF.out) fun Wx8 HG => ?_
  clear HF; have HF := HG; clear HG
  refine wp_ret ?_
  try simp only [Exit.then, Exit.inBlock]
  exact bodyPost_ret (v := .string ⟨#[110, 111, 110, 101]⟩) (by simp [results, Tryz.results106, go_sem]) rfl ⟨rfl, HF.out.1⟩

set_option maxRecDepth 20000 in
set_option maxHeartbeats 8000000 in
theorem joined_0  (R : Int) (M : Nat) (tr tm t1 t : ByteArray) (w : World) (HCV : Hid (chv (fun _ => (0, 1)) 0 R M 0)) (hwR : wl R.natAbs ≤ 20) (hwM : wl M ≤ 20) (HTR : Hid (itx R = tr)) (HTM : Hid ((⟨(Lib.decDigits M).toArray⟩ : ByteArray) = tm)) (HT1 : Hid (tr ++ (⟨#[32, 98, 121, 32]⟩ : ByteArray) = t1)) (HT2 : Hid (t1 ++ tm = t)) (hl1 : tr.size ≤ 1000) (hl2 : t1.size ≤ 1000) (hl3 : tm.size ≤ 1000) (HT : Hid (Tab w)) :
    Calls Tryz.prog 106 #[.slice none 0 0] w fun e w' => e = .returned ((.string t)) ∧ Below w.heap.size w w' := by
  have hw1 : IntKind.i64.wrap 1 = 1 := by decide
  have hw2 : IntKind.i64.wrap 2 = 2 := by decide
  go_enter Tryz.func106, Tryz.ntmps106
  have HF := Lib.hid (hp0 w)
  refine kS fun K hK => ?_
  refine wp_region_lit ?_
  go_wp2
  refine hK.out _ _ ?_; clear hK K
  show Code.wp _ _ _ _ _
  refine fH (HF.out) fun Wx0 HG => ?_
  clear HF; have HF := HG; clear HG
  refine kS fun K hK => ?_
  refine wp_region_lit ?_
  go_wp2
  refine hK.out _ _ ?_; clear hK K
  show Code.wp _ _ _ _ _
  refine fH (HF.out) fun Wx1 HG => ?_
  clear HF; have HF := HG; clear HG
  refine wp_seq ?_
  refine kS fun K hK => ?_
  refine wp_region_lit ?_
  go_wp2
  refine hK.out _ _ ?_; clear hK K
  show Code.wp _ _ _ _ _
  refine fH (HF.out) fun Wx2 HG => ?_
  clear HF; have HF := HG; clear HG
  refine wp_block ?_
  refine wp_loop_rounds 4 ?_
  rw [rounds_succ]
  refine wp_seq ?_
  refine kS fun K hK => ?_
  refine sq 4 [(true, 0), (true, 1), (true, 2), (true, 3)] fun T hT => ?_
  iterate 4 refine tk ?_
  refine nlS hT HF fun vw1 HG => ?_
  clear hT T HF
  go_wp2
  refine hK.out _ _ ?_; clear hK K
  show Code.wp _ _ _ _ _
  have HF := HG; clear HG
  refine wp_cond_false (by rfl) ?_
  refine wp_exit ?_
  show Code.wp _ _ _ _ _
  have su1a : wl (Int.natAbs (R)) ≤ 20 := om
  have su1b : wl (M) ≤ 20 := om
  refine kS fun K hK => ?_
  refine sq 5 [(true, 0), (true, 1), (true, 2), (true, 3), (true, 4)] fun T hT => ?_
  refine tk ?_
  refine ck Tryz.call29 (fun w' hw => rchinese _ 0 (fun _ => (0, 1)) (R) (M) (0) _ HCV.out (rs0 _ _) (by omega) (fun i hi => absurd hi (Nat.not_lt_zero _))) ?_
  iterate 3 refine tk ?_
  refine nlS hT HF fun vw2 HG => ?_
  clear hT T HF
  go_wp2
  refine hK.out _ _ ?_; clear hK K
  show Code.wp _ _ _ _ _
  refine fH ((HG.out).al (b := vw2.heap.size) (by first | rfl | simp) (by decide)) fun Wx6 HF => ?_
  clear HG
  generalize vw2.heap.size = gx1 at *
  refine wp_seq ?_
  refine kS fun K hK => ?_
  refine sq 2 [(true, 0), (true, 1)] fun T hT => ?_
  iterate 2 refine tk ?_
  refine nlS hT HF fun vw3 HG => ?_
  clear hT T HF
  go_wp2
  refine hK.out _ _ ?_; clear hK K
  show Code.wp _ _ _ _ _
  have HF := HG; clear HG
  refine wp_cond_false (by rfl) ?_
  refine wp_skip ?_
  show Code.wp _ _ _ _ _
  have HB := HPb HF
  have hlen1 : ¬ (9223372036854775807 < tr.size + 4) := by omega
  have hcat1 : tr ++ (⟨#[32, 98, 121, 32]⟩ : ByteArray) = t1 := HT1.out
  have hlen2 : ¬ (9223372036854775807 < t1.size + tm.size) := by omega
  have hcat2 : t1 ++ tm = t := HT2.out
  have lx1 := HF.out.c 0 rfl
  refine kS fun K hK => ?_
  refine pd 8 [(true, 0), (true, 1), (true, 4), (true, 5), (true, 2), (true, 3), (true, 6), (true, 7)] fun T hT => ?_
  iterate 4 refine tk ?_
  refine ck Tryz.call141 (fun w' hw => zitext (R) tr _ HTR.out om (Lib.hid (HT.out.gr (Gr.trans HB.out hw)))) ?_
  refine tk ?_
  refine ck Tryz.call154 (fun w' hw => nztexts (M) tm _ HTM.out om (Lib.hid (HT.out.gr (Gr.trans HB.out hw)))) ?_
  refine tk ?_
  refine nlD hT HF fun vw4 HG => ?_
  clear hT T HF lx1 HB
  go_wp2
  refine hK.out _ _ ?_; clear hK K
  show Code.wp _ _ _ _ _
  refine fH ((HG.out).er 0) fun Wx9 HF => ?_
  clear HG
  clear hlen1 hcat1 hlen2 hcat2
  refine wp_ret ?_
  try simp only [Exit.then, Exit.inBlock]
  exact bodyPost_ret (v := .string t) (by simp [results, Tryz.results106, go_sem]) rfl ⟨rfl, HF.out.1⟩

end Go.Proofs.YtobojnodohjiaaaGreatDoor
