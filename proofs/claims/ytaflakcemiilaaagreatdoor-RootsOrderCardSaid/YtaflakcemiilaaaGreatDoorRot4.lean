
/- roots.Order. -/
import Derived.Test.YtaflakcemiilaaaGreatDoorRotP
import Derived.Test.YtaflakcemiilaaaGreatDoorSumL
import Derived.Test.YtaflakcemiilaaaGreatDoorHp
namespace Go.Proofs.YtaflakcemiilaaaGreatDoor
open Go.RowKit
set_option linter.unusedSimpArgs false
set_option linter.unusedVariables false
attribute [local go_sem ↓] Go.wp_at_zero Go.wp_at_succ
attribute [local go_sem ↓] eq_nat eq_nat_zero eq_int
theorem sgQ_nn0 {a : Rat} (h : 0 ≤ a) : 0 ≤ sgQ a := by
  rcases sgQ_cases a with ⟨h1, _⟩ | ⟨_, e⟩ | ⟨_, e⟩
  · exfalso; grind
  · rw [e]; decide
  · rw [e]; decide

set_option maxRecDepth 20000 in
set_option maxHeartbeats 4000000 in
theorem rorder_a (a b s : Rat) (v : Value) (n : Nat) (f : Nat → Rat) (w : World) (HFS : Hid (Fs w v n f)) (hn : n ≤ 1000000) (HSZ : Hid (∀ i, i < n → sz (f i) ≤ 1000)) (HSUM : Hid (qsum f n = s)) (hss : sz s ≤ 1000000) (hsa : sz a ≤ 1000000) (hsb : sz b ≤ 1000000) (HA : Hid (a < 0)) :
    Calls Tryz.prog 34 #[(Value.agg #[.int .u64 ((lo (Int.natAbs ((a).num)) : Nat) : Int), .string (bg (Int.natAbs ((a).num))), .bool (decide (((a).num) < 0)), .int .u64 ((lo ((a).den - 1) : Nat) : Int), .string (bg ((a).den - 1))]), (Value.agg #[.int .u64 ((lo (Int.natAbs ((b).num)) : Nat) : Int), .string (bg (Int.natAbs ((b).num))), .bool (decide (((b).num) < 0)), .int .u64 ((lo ((b).den - 1) : Nat) : Int), .string (bg ((b).den - 1))]), v] w fun e w' => e = .returned ((.tuple #[.int .i64 0, .int .i64 1])) ∧ Below w.heap.size w w' := by
  go_enter Tryz.func34, Tryz.ntmps34
  have HF := Lib.hid (hp0 w)
  refine kS fun K hK => ?_
  refine wp_region_lit ?_
  go_wp2
  refine hK.out _ _ ?_; clear hK K
  show Code.wp _ _ _ _ _
  refine fH (((HF.out).al (b := w.heap.size) (by first | rfl | simp) (by decide)).al (b := w.heap.size + 1) (by first | rfl | simp) (by decide)) fun Wx0 HG => ?_
  clear HF; have HF := HG; clear HG
  generalize w.heap.size + 1 = gx1 at *
  have HB := HPb HF
  refine kS fun K hK => ?_
  refine sq 2 [(true, 0), (true, 1)] fun T hT => ?_
  refine tk ?_
  refine ck Tryz.call40 (fun w' hw => fsum_list n f _ s _ (HFS.out.gr (Gr.trans HB.out hw)) (by omega) HSZ.out HSUM.out) ?_
  refine nlS hT HF fun vw1 HG => ?_
  clear hT T HF HB
  go_wp2
  refine hK.out _ _ ?_; clear hK K
  show Code.wp _ _ _ _ _
  refine fH ((HG.out).al (b := vw1.heap.size) (by first | rfl | simp) (by decide)) fun Wx1 HF => ?_
  clear HG
  generalize vw1.heap.size = gx3 at *
  refine wp_seq ?_
  have lx0 := HF.out.c 0 rfl
  have lx1 := HF.out.c 1 rfl
  have lx3 := HF.out.c 2 rfl
  refine kS fun K hK => ?_
  refine sq 13 [(true, 0), (true, 1), (true, 2), (true, 3), (true, 4), (true, 5), (true, 6), (true, 7), (true, 8), (true, 9), (true, 10), (true, 11), (true, 12)] fun T hT => ?_
  refine tk ?_
  refine ck Tryz.call35 (fun w' hw => fsign_any (a) (-1) _ (by have e9 : (a) < (0 : Rat) := (by first | exact ok | exact HA.out | exact HB_.out | exact HS.out | exact HL0.out); exact sgQ_neg e9)) ?_
  iterate 2 refine tk ?_
  iterate 3 refine sk ?_
  iterate 2 refine tk ?_
  iterate 3 refine sk ?_
  refine tk ?_
  refine nlS hT HF fun vw2 HG => ?_
  clear hT T HF lx0 lx1 lx3
  go_wp2
  refine hK.out _ _ ?_; clear hK K
  show Code.wp _ _ _ _ _
  have HF := HG; clear HG
  refine wp_cond_true (by rfl) ?_
  refine kS fun K hK => ?_
  refine wp_region_lit ?_
  go_wp2
  refine hK.out _ _ ?_; clear hK K
  show Code.wp _ _ _ _ _
  refine fH (HF.out) fun Wx3 HG => ?_
  clear HF; have HF := HG; clear HG
  refine wp_ret ?_
  try simp only [Exit.then, Exit.inBlock]
  exact bodyPost_ret (v := .tuple #[.int .i64 0, .int .i64 1]) (by simp [results, Tryz.results34, go_sem]) rfl ⟨rfl, HF.out.1⟩

set_option maxRecDepth 20000 in
set_option maxHeartbeats 4000000 in
theorem rorder_s (a b s : Rat) (v : Value) (n : Nat) (f : Nat → Rat) (w : World) (HFS : Hid (Fs w v n f)) (hn : n ≤ 1000000) (HSZ : Hid (∀ i, i < n → sz (f i) ≤ 1000)) (HSUM : Hid (qsum f n = s)) (hss : sz s ≤ 1000000) (hsa : sz a ≤ 1000000) (hsb : sz b ≤ 1000000) (HA : Hid (0 ≤ a)) (HB_ : Hid (0 ≤ b)) (HS : Hid (s < 0)) :
    Calls Tryz.prog 34 #[(Value.agg #[.int .u64 ((lo (Int.natAbs ((a).num)) : Nat) : Int), .string (bg (Int.natAbs ((a).num))), .bool (decide (((a).num) < 0)), .int .u64 ((lo ((a).den - 1) : Nat) : Int), .string (bg ((a).den - 1))]), (Value.agg #[.int .u64 ((lo (Int.natAbs ((b).num)) : Nat) : Int), .string (bg (Int.natAbs ((b).num))), .bool (decide (((b).num) < 0)), .int .u64 ((lo ((b).den - 1) : Nat) : Int), .string (bg ((b).den - 1))]), v] w fun e w' => e = .returned ((.tuple #[.int .i64 0, .int .i64 1])) ∧ Below w.heap.size w w' := by
  go_enter Tryz.func34, Tryz.ntmps34
  have HF := Lib.hid (hp0 w)
  refine kS fun K hK => ?_
  refine wp_region_lit ?_
  go_wp2
  refine hK.out _ _ ?_; clear hK K
  show Code.wp _ _ _ _ _
  refine fH (((HF.out).al (b := w.heap.size) (by first | rfl | simp) (by decide)).al (b := w.heap.size + 1) (by first | rfl | simp) (by decide)) fun Wx0 HG => ?_
  clear HF; have HF := HG; clear HG
  generalize w.heap.size + 1 = gx1 at *
  have HB := HPb HF
  refine kS fun K hK => ?_
  refine sq 2 [(true, 0), (true, 1)] fun T hT => ?_
  refine tk ?_
  refine ck Tryz.call40 (fun w' hw => fsum_list n f _ s _ (HFS.out.gr (Gr.trans HB.out hw)) (by omega) HSZ.out HSUM.out) ?_
  refine nlS hT HF fun vw1 HG => ?_
  clear hT T HF HB
  go_wp2
  refine hK.out _ _ ?_; clear hK K
  show Code.wp _ _ _ _ _
  refine fH ((HG.out).al (b := vw1.heap.size) (by first | rfl | simp) (by decide)) fun Wx1 HF => ?_
  clear HG
  generalize vw1.heap.size = gx3 at *
  refine wp_seq ?_
  obtain ⟨t1, HT1⟩ : ∃ z, Hid (sgQ (a) = z) := ⟨_, Lib.hid rfl⟩
  have ht1 : 0 ≤ t1 := by rw [← HT1.out]; exact sgQ_nn0 HA.out
  have hd1 : ¬ (t1 < 0) := by first | exact ok | exact HA.out | exact HB_.out | exact HS.out | exact HL0.out
  obtain ⟨t2, HT2⟩ : ∃ z, Hid (sgQ (b) = z) := ⟨_, Lib.hid rfl⟩
  have ht2 : 0 ≤ t2 := by rw [← HT2.out]; exact sgQ_nn0 HB_.out
  have hd2 : ¬ (t2 < 0) := by first | exact ok | exact HA.out | exact HB_.out | exact HS.out | exact HL0.out
  have lx0 := HF.out.c 0 rfl
  have lx1 := HF.out.c 1 rfl
  have lx3 := HF.out.c 2 rfl
  refine kS fun K hK => ?_
  refine sq 13 [(true, 0), (true, 1), (true, 2), (true, 3), (true, 4), (true, 5), (true, 6), (true, 7), (true, 8), (true, 9), (true, 10), (true, 11), (true, 12)] fun T hT => ?_
  refine tk ?_
  refine ck Tryz.call35 (fun w' hw => fsign_any (a) (t1) _ HT1.out) ?_
  iterate 3 refine tk ?_
  refine ck Tryz.call35 (fun w' hw => fsign_any (b) (t2) _ HT2.out) ?_
  iterate 4 refine tk ?_
  refine ck Tryz.call35 (fun w' hw => fsign_any (s) (-1) _ (by have e9 : (s) < (0 : Rat) := (by first | exact ok | exact HA.out | exact HB_.out | exact HS.out | exact HL0.out); exact sgQ_neg e9)) ?_
  iterate 2 refine tk ?_
  refine nlS hT HF fun vw2 HG => ?_
  clear hT T HF lx0 lx1 lx3
  go_wp2
  refine hK.out _ _ ?_; clear hK K
  show Code.wp _ _ _ _ _
  have HF := HG; clear HG
  clear ht1 hd1 ht2 hd2
  refine wp_cond_true (by rfl) ?_
  refine kS fun K hK => ?_
  refine wp_region_lit ?_
  go_wp2
  refine hK.out _ _ ?_; clear hK K
  show Code.wp _ _ _ _ _
  refine fH (HF.out) fun Wx3 HG => ?_
  clear HF; have HF := HG; clear HG
  refine wp_ret ?_
  try simp only [Exit.then, Exit.inBlock]
  exact bodyPost_ret (v := .tuple #[.int .i64 0, .int .i64 1]) (by simp [results, Tryz.results34, go_sem]) rfl ⟨rfl, HF.out.1⟩

set_option maxRecDepth 20000 in
set_option maxHeartbeats 4000000 in
theorem rorder_1 (a b s : Rat) (v : Value) (n : Nat) (f : Nat → Rat) (l : Rat) (w : World) (HFS : Hid (Fs w v n f)) (hn : n ≤ 1000000) (HSZ : Hid (∀ i, i < n → sz (f i) ≤ 1000)) (HSUM : Hid (qsum f n = s)) (hss : sz s ≤ 1000000) (hsa : sz a ≤ 1000000) (hsb : sz b ≤ 1000000) (HA : Hid (0 ≤ a)) (HB_ : Hid (0 ≤ b)) (HS : Hid (0 ≤ s)) (HL : Hid (s - (a + b) = l)) (HL0 : Hid (l < 0)) :
    Calls Tryz.prog 34 #[(Value.agg #[.int .u64 ((lo (Int.natAbs ((a).num)) : Nat) : Int), .string (bg (Int.natAbs ((a).num))), .bool (decide (((a).num) < 0)), .int .u64 ((lo ((a).den - 1) : Nat) : Int), .string (bg ((a).den - 1))]), (Value.agg #[.int .u64 ((lo (Int.natAbs ((b).num)) : Nat) : Int), .string (bg (Int.natAbs ((b).num))), .bool (decide (((b).num) < 0)), .int .u64 ((lo ((b).den - 1) : Nat) : Int), .string (bg ((b).den - 1))]), v] w fun e w' => e = .returned ((.tuple #[.int .i64 1, .int .i64 0])) ∧ Below w.heap.size w w' := by
  go_enter Tryz.func34, Tryz.ntmps34
  have HF := Lib.hid (hp0 w)
  refine kS fun K hK => ?_
  refine wp_region_lit ?_
  go_wp2
  refine hK.out _ _ ?_; clear hK K
  show Code.wp _ _ _ _ _
  refine fH (((HF.out).al (b := w.heap.size) (by first | rfl | simp) (by decide)).al (b := w.heap.size + 1) (by first | rfl | simp) (by decide)) fun Wx0 HG => ?_
  clear HF; have HF := HG; clear HG
  generalize w.heap.size + 1 = gx1 at *
  have HB := HPb HF
  refine kS fun K hK => ?_
  refine sq 2 [(true, 0), (true, 1)] fun T hT => ?_
  refine tk ?_
  refine ck Tryz.call40 (fun w' hw => fsum_list n f _ s _ (HFS.out.gr (Gr.trans HB.out hw)) (by omega) HSZ.out HSUM.out) ?_
  refine nlS hT HF fun vw1 HG => ?_
  clear hT T HF HB
  go_wp2
  refine hK.out _ _ ?_; clear hK K
  show Code.wp _ _ _ _ _
  refine fH ((HG.out).al (b := vw1.heap.size) (by first | rfl | simp) (by decide)) fun Wx1 HF => ?_
  clear HG
  generalize vw1.heap.size = gx3 at *
  refine wp_seq ?_
  obtain ⟨t1, HT1⟩ : ∃ z, Hid (sgQ (a) = z) := ⟨_, Lib.hid rfl⟩
  have ht1 : 0 ≤ t1 := by rw [← HT1.out]; exact sgQ_nn0 HA.out
  have hd1 : ¬ (t1 < 0) := by first | exact ok | exact HA.out | exact HB_.out | exact HS.out | exact HL0.out
  obtain ⟨t2, HT2⟩ : ∃ z, Hid (sgQ (b) = z) := ⟨_, Lib.hid rfl⟩
  have ht2 : 0 ≤ t2 := by rw [← HT2.out]; exact sgQ_nn0 HB_.out
  have hd2 : ¬ (t2 < 0) := by first | exact ok | exact HA.out | exact HB_.out | exact HS.out | exact HL0.out
  obtain ⟨t3, HT3⟩ : ∃ z, Hid (sgQ (s) = z) := ⟨_, Lib.hid rfl⟩
  have ht3 : 0 ≤ t3 := by rw [← HT3.out]; exact sgQ_nn0 HS.out
  have hd3 : ¬ (t3 < 0) := by first | exact ok | exact HA.out | exact HB_.out | exact HS.out | exact HL0.out
  have lx0 := HF.out.c 0 rfl
  have lx1 := HF.out.c 1 rfl
  have lx3 := HF.out.c 2 rfl
  refine kS fun K hK => ?_
  refine sq 13 [(true, 0), (true, 1), (true, 2), (true, 3), (true, 4), (true, 5), (true, 6), (true, 7), (true, 8), (true, 9), (true, 10), (true, 11), (true, 12)] fun T hT => ?_
  refine tk ?_
  refine ck Tryz.call35 (fun w' hw => fsign_any (a) (t1) _ HT1.out) ?_
  iterate 3 refine tk ?_
  refine ck Tryz.call35 (fun w' hw => fsign_any (b) (t2) _ HT2.out) ?_
  iterate 4 refine tk ?_
  refine ck Tryz.call35 (fun w' hw => fsign_any (s) (t3) _ HT3.out) ?_
  iterate 2 refine tk ?_
  refine nlS hT HF fun vw2 HG => ?_
  clear hT T HF lx0 lx1 lx3
  go_wp2
  refine hK.out _ _ ?_; clear hK K
  show Code.wp _ _ _ _ _
  have HF := HG; clear HG
  clear ht1 hd1 ht2 hd2 ht3 hd3
  refine wp_cond_false (by rfl) ?_
  refine wp_skip ?_
  show Code.wp _ _ _ _ _
  obtain ⟨u4, HZ4⟩ : ∃ z, Hid ((a) + (b) = z) := ⟨_, Lib.hid rfl⟩
  have su4 : sz (u4) ≤ 2000001 := by rw [← HZ4.out]; have := sz_add (a) (b); omega
  have HZ5 : Hid ((s) - (u4) = l) := Lib.hid (by rw [← HL.out]; simp only [← HZ4.out])
  have su5 : sz (l) ≤ 3000002 := by have e := HZ5.out; first | omega | (rw [← e]; have := sz_sub (s) (u4); omega)
  have lx0 := HF.out.c 0 rfl
  have lx1 := HF.out.c 1 rfl
  have lx3 := HF.out.c 2 rfl
  refine kS fun K hK => ?_
  refine wp_region_plan 6 [5] [] (fun _ => 9) (fun _ => .cells #[.int .u64 0, .string ⟨#[]⟩, .bool false, .int .u64 0, .string ⟨#[]⟩] 36) [(true, 0), (true, 1), (true, 2), (true, 3), (true, 4)] (by kernel_rfl) (by kernel_rfl) (by intro i hi; simp only [List.mem_cons, List.not_mem_nil, or_false] at hi; rcases hi with rfl <;> exact ⟨_, rfl, rfl, rfl, by simp, fun ρ w => by kernel_rfl⟩) (fun i hi => by cases hi) (fun _ _ _ _ _ h => h) (fun T hT => ?_)
  iterate 3 refine tk ?_
  refine ck Tryz.call30 (fun w' hw => fadd_any (a) (b) (u4) _ HZ4.out om om) ?_
  refine ck Tryz.call42 (fun w' hw => fsub_any (s) (u4) (l) _ HZ5.out om om) ?_
  refine wpPlan_nil (hT.out _ _ ?_)
  intro G vw3 hg hf
  simp only [puts, Act.put, lA, lB, lC, lD, lE, ↓reduceIte, Nat.reduceEqDiff]
  have HG := Lib.hid (HF.out.fr hg hf (zs := [(#[.int .u64 0, .string ⟨#[]⟩, .bool false, .int .u64 0, .string ⟨#[]⟩], 36)]) rfl (by decide) (by decide))
  simp only [List.zip_cons_cons, List.zip_nil_right, List.map_cons, List.map_nil, lF, lG] at HG
  clear hT T HF hg hf lx0 lx1 lx3
  generalize G 5 = gx4 at *
  have lx4 := HG.out.c 3 rfl; have fx4 := HG.out.f 3 rfl
  have r0 := Gr.refl vw3
  go_wp2
  refine hK.out _ _ ?_; clear hK K
  show Code.wp _ _ _ _ _
  clear r0 lx4 fx4
  refine fH (((((HG.out).put2 3 0 rfl).put2 3 2 rfl).put 3 4 _ rfl).er 2) fun Wx4 HF => ?_
  clear HG
  refine wp_seq ?_
  have lx4 := HF.out.c 2 rfl
  refine kS fun K hK => ?_
  refine sq 3 [(true, 0), (true, 1), (true, 2)] fun T hT => ?_
  refine tk ?_
  refine ck Tryz.call35 (fun w' hw => fsign_any (l) (-1) _ (by have e9 : (l) < (0 : Rat) := (by first | exact ok | exact HA.out | exact HB_.out | exact HS.out | exact HL0.out | (simp only [← HZ4.out] <;> first | exact ok | exact HA.out | exact HB_.out | exact HS.out | exact HL0.out)); exact sgQ_neg e9)) ?_
  refine tk ?_
  refine nlS hT HF fun vw4 HG => ?_
  clear hT T HF lx4
  go_wp2
  refine hK.out _ _ ?_; clear hK K
  show Code.wp _ _ _ _ _
  have HF := HG; clear HG
  refine wp_cond_true (by rfl) ?_
  refine kS fun K hK => ?_
  refine wp_region_lit ?_
  go_wp2
  refine hK.out _ _ ?_; clear hK K
  show Code.wp _ _ _ _ _
  refine fH (HF.out) fun Wx6 HG => ?_
  clear HF; have HF := HG; clear HG
  refine wp_ret ?_
  try simp only [Exit.then, Exit.inBlock]
  exact bodyPost_ret (v := .tuple #[.int .i64 1, .int .i64 0]) (by simp [results, Tryz.results34, go_sem]) rfl ⟨rfl, HF.out.1⟩

set_option maxRecDepth 20000 in
set_option maxHeartbeats 4000000 in
theorem rorder_c (a b s : Rat) (v : Value) (n : Nat) (f : Nat → Rat) (l : Rat) (c : Int) (w : World) (HFS : Hid (Fs w v n f)) (hn : n ≤ 1000000) (HSZ : Hid (∀ i, i < n → sz (f i) ≤ 1000)) (HSUM : Hid (qsum f n = s)) (hss : sz s ≤ 1000000) (hsa : sz a ≤ 1000000) (hsb : sz b ≤ 1000000) (HA : Hid (0 ≤ a)) (HB_ : Hid (0 ≤ b)) (HS : Hid (0 ≤ s)) (HL : Hid (s - (a + b) = l)) (HL0 : Hid (0 ≤ l)) (HC : Hid (sgQ (4 * (a * b) - l * l) = c)) :
    Calls Tryz.prog 34 #[(Value.agg #[.int .u64 ((lo (Int.natAbs ((a).num)) : Nat) : Int), .string (bg (Int.natAbs ((a).num))), .bool (decide (((a).num) < 0)), .int .u64 ((lo ((a).den - 1) : Nat) : Int), .string (bg ((a).den - 1))]), (Value.agg #[.int .u64 ((lo (Int.natAbs ((b).num)) : Nat) : Int), .string (bg (Int.natAbs ((b).num))), .bool (decide (((b).num) < 0)), .int .u64 ((lo ((b).den - 1) : Nat) : Int), .string (bg ((b).den - 1))]), v] w fun e w' => e = .returned ((.tuple #[.int .i64 c, .int .i64 0])) ∧ Below w.heap.size w w' := by
  go_enter Tryz.func34, Tryz.ntmps34
  have HF := Lib.hid (hp0 w)
  refine kS fun K hK => ?_
  refine wp_region_lit ?_
  go_wp2
  refine hK.out _ _ ?_; clear hK K
  show Code.wp _ _ _ _ _
  refine fH (((HF.out).al (b := w.heap.size) (by first | rfl | simp) (by decide)).al (b := w.heap.size + 1) (by first | rfl | simp) (by decide)) fun Wx0 HG => ?_
  clear HF; have HF := HG; clear HG
  generalize w.heap.size + 1 = gx1 at *
  have HB := HPb HF
  refine kS fun K hK => ?_
  refine sq 2 [(true, 0), (true, 1)] fun T hT => ?_
  refine tk ?_
  refine ck Tryz.call40 (fun w' hw => fsum_list n f _ s _ (HFS.out.gr (Gr.trans HB.out hw)) (by omega) HSZ.out HSUM.out) ?_
  refine nlS hT HF fun vw1 HG => ?_
  clear hT T HF HB
  go_wp2
  refine hK.out _ _ ?_; clear hK K
  show Code.wp _ _ _ _ _
  refine fH ((HG.out).al (b := vw1.heap.size) (by first | rfl | simp) (by decide)) fun Wx1 HF => ?_
  clear HG
  generalize vw1.heap.size = gx3 at *
  refine wp_seq ?_
  obtain ⟨t1, HT1⟩ : ∃ z, Hid (sgQ (a) = z) := ⟨_, Lib.hid rfl⟩
  have ht1 : 0 ≤ t1 := by rw [← HT1.out]; exact sgQ_nn0 HA.out
  have hd1 : ¬ (t1 < 0) := by first | exact ok | exact HA.out | exact HB_.out | exact HS.out | exact HL0.out
  obtain ⟨t2, HT2⟩ : ∃ z, Hid (sgQ (b) = z) := ⟨_, Lib.hid rfl⟩
  have ht2 : 0 ≤ t2 := by rw [← HT2.out]; exact sgQ_nn0 HB_.out
  have hd2 : ¬ (t2 < 0) := by first | exact ok | exact HA.out | exact HB_.out | exact HS.out | exact HL0.out
  obtain ⟨t3, HT3⟩ : ∃ z, Hid (sgQ (s) = z) := ⟨_, Lib.hid rfl⟩
  have ht3 : 0 ≤ t3 := by rw [← HT3.out]; exact sgQ_nn0 HS.out
  have hd3 : ¬ (t3 < 0) := by first | exact ok | exact HA.out | exact HB_.out | exact HS.out | exact HL0.out
  have lx0 := HF.out.c 0 rfl
  have lx1 := HF.out.c 1 rfl
  have lx3 := HF.out.c 2 rfl
  refine kS fun K hK => ?_
  refine sq 13 [(true, 0), (true, 1), (true, 2), (true, 3), (true, 4), (true, 5), (true, 6), (true, 7), (true, 8), (true, 9), (true, 10), (true, 11), (true, 12)] fun T hT => ?_
  refine tk ?_
  refine ck Tryz.call35 (fun w' hw => fsign_any (a) (t1) _ HT1.out) ?_
  iterate 3 refine tk ?_
  refine ck Tryz.call35 (fun w' hw => fsign_any (b) (t2) _ HT2.out) ?_
  iterate 4 refine tk ?_
  refine ck Tryz.call35 (fun w' hw => fsign_any (s) (t3) _ HT3.out) ?_
  iterate 2 refine tk ?_
  refine nlS hT HF fun vw2 HG => ?_
  clear hT T HF lx0 lx1 lx3
  go_wp2
  refine hK.out _ _ ?_; clear hK K
  show Code.wp _ _ _ _ _
  have HF := HG; clear HG
  clear ht1 hd1 ht2 hd2 ht3 hd3
  refine wp_cond_false (by rfl) ?_
  refine wp_skip ?_
  show Code.wp _ _ _ _ _
  obtain ⟨u4, HZ4⟩ : ∃ z, Hid ((a) + (b) = z) := ⟨_, Lib.hid rfl⟩
  have su4 : sz (u4) ≤ 2000001 := by rw [← HZ4.out]; have := sz_add (a) (b); omega
  have HZ5 : Hid ((s) - (u4) = l) := Lib.hid (by rw [← HL.out]; simp only [← HZ4.out])
  have su5 : sz (l) ≤ 3000002 := by have e := HZ5.out; first | omega | (rw [← e]; have := sz_sub (s) (u4); omega)
  have lx0 := HF.out.c 0 rfl
  have lx1 := HF.out.c 1 rfl
  have lx3 := HF.out.c 2 rfl
  refine kS fun K hK => ?_
  refine wp_region_plan 6 [5] [] (fun _ => 9) (fun _ => .cells #[.int .u64 0, .string ⟨#[]⟩, .bool false, .int .u64 0, .string ⟨#[]⟩] 36) [(true, 0), (true, 1), (true, 2), (true, 3), (true, 4)] (by kernel_rfl) (by kernel_rfl) (by intro i hi; simp only [List.mem_cons, List.not_mem_nil, or_false] at hi; rcases hi with rfl <;> exact ⟨_, rfl, rfl, rfl, by simp, fun ρ w => by kernel_rfl⟩) (fun i hi => by cases hi) (fun _ _ _ _ _ h => h) (fun T hT => ?_)
  iterate 3 refine tk ?_
  refine ck Tryz.call30 (fun w' hw => fadd_any (a) (b) (u4) _ HZ4.out om om) ?_
  refine ck Tryz.call42 (fun w' hw => fsub_any (s) (u4) (l) _ HZ5.out om om) ?_
  refine wpPlan_nil (hT.out _ _ ?_)
  intro G vw3 hg hf
  simp only [puts, Act.put, lA, lB, lC, lD, lE, ↓reduceIte, Nat.reduceEqDiff]
  have HG := Lib.hid (HF.out.fr hg hf (zs := [(#[.int .u64 0, .string ⟨#[]⟩, .bool false, .int .u64 0, .string ⟨#[]⟩], 36)]) rfl (by decide) (by decide))
  simp only [List.zip_cons_cons, List.zip_nil_right, List.map_cons, List.map_nil, lF, lG] at HG
  clear hT T HF hg hf lx0 lx1 lx3
  generalize G 5 = gx4 at *
  have lx4 := HG.out.c 3 rfl; have fx4 := HG.out.f 3 rfl
  have r0 := Gr.refl vw3
  go_wp2
  refine hK.out _ _ ?_; clear hK K
  show Code.wp _ _ _ _ _
  clear r0 lx4 fx4
  refine fH (((((HG.out).put2 3 0 rfl).put2 3 2 rfl).put 3 4 _ rfl).er 2) fun Wx4 HF => ?_
  clear HG
  refine wp_seq ?_
  obtain ⟨t6, HT6⟩ : ∃ z, Hid (sgQ (l) = z) := ⟨_, Lib.hid rfl⟩
  have ht6 : 0 ≤ t6 := by rw [← HT6.out]; exact sgQ_nn0 HL0.out
  have hd4 : ¬ (t6 < 0) := by first | exact ok | exact HA.out | exact HB_.out | exact HS.out | exact HL0.out | (simp only [← HZ4.out] <;> first | exact ok | exact HA.out | exact HB_.out | exact HS.out | exact HL0.out)
  have lx4 := HF.out.c 2 rfl
  refine kS fun K hK => ?_
  refine sq 3 [(true, 0), (true, 1), (true, 2)] fun T hT => ?_
  refine tk ?_
  refine ck Tryz.call35 (fun w' hw => fsign_any (l) (t6) _ HT6.out) ?_
  refine tk ?_
  refine nlS hT HF fun vw4 HG => ?_
  clear hT T HF lx4
  go_wp2
  refine hK.out _ _ ?_; clear hK K
  show Code.wp _ _ _ _ _
  have HF := HG; clear HG
  clear ht6 hd4
  refine wp_cond_false (by rfl) ?_
  refine wp_skip ?_
  show Code.wp _ _ _ _ _
  have HZ7 : Hid (((4 : Int) : Rat) = (4 : Rat)) := Lib.hid (by decide +kernel)
  have su7 : sz ((4 : Rat)) ≤ 2 := sz_of (wl_le.2 (by decide +kernel)) (wl_le.2 (by decide +kernel))
  obtain ⟨u8, HZ8⟩ : ∃ z, Hid ((a) * (b) = z) := ⟨_, Lib.hid rfl⟩
  have su8 : sz (u8) ≤ 2000000 := by rw [← HZ8.out]; have := sz_mul (a) (b); omega
  obtain ⟨u9, HZ9⟩ : ∃ z, Hid ((4 : Rat) * (u8) = z) := ⟨_, Lib.hid rfl⟩
  have su9 : sz (u9) ≤ 2000002 := by rw [← HZ9.out]; have := sz_mul (4 : Rat) (u8); omega
  obtain ⟨u10, HZ10⟩ : ∃ z, Hid ((l) * (l) = z) := ⟨_, Lib.hid rfl⟩
  have su10 : sz (u10) ≤ 6000004 := by rw [← HZ10.out]; have := sz_mul (l) (l); omega
  have lx0 := HF.out.c 0 rfl
  have lx1 := HF.out.c 1 rfl
  have lx4 := HF.out.c 2 rfl
  refine kS fun K hK => ?_
  refine pd 9 [(true, 1), (true, 2), (true, 5), (true, 0), (true, 3), (true, 4), (true, 6), (true, 7), (true, 8)] fun T hT => ?_
  iterate 3 refine tk ?_
  refine ck Tryz.call32 (fun w' hw => fint_any (4) (4 : Rat) _ HZ7.out om om) ?_
  refine ck Tryz.call39 (fun w' hw => fmul_any (a) (b) (u8) _ HZ8.out om om) ?_
  refine ck Tryz.call39 (fun w' hw => fmul_any (4 : Rat) (u8) (u9) _ HZ9.out om om) ?_
  refine ck Tryz.call37 (fun w' hw => fsquare_any (l) (u10) _ (Lib.hid HZ10.out) om) ?_
  refine ck Tryz.call38 (fun w' hw => fcmp_any (u9) (u10) (c) _ (by simp only [← HZ10.out, ← HZ9.out, ← HZ8.out, ← HZ4.out]; exact HC.out) om om) ?_
  refine tk ?_
  refine nlD hT HF fun vw5 HG => ?_
  clear hT T HF lx0 lx1 lx4
  go_wp2
  refine hK.out _ _ ?_; clear hK K
  show Code.wp _ _ _ _ _
  refine fH ((((HG.out).er 2).er 1).er 0) fun Wx7 HF => ?_
  clear HG
  refine wp_ret ?_
  try simp only [Exit.then, Exit.inBlock]
  exact bodyPost_ret (v := .tuple #[.int .i64 (c), .int .i64 0]) (by simp [results, Tryz.results34, go_sem]) rfl ⟨rfl, HF.out.1⟩

end Go.Proofs.YtaflakcemiilaaaGreatDoor
