
/- gussetref02.Parse: the integer of a decimal form, the code. -/
import Derived.Test.YtpcfncbcpknobaaGreatDoorPQ
import Derived.Test.YtpcfncbcpknobaaGreatDoorZrA
namespace Go.Proofs.YtpcfncbcpknobaaGreatDoor
open Go.RowKit
set_option linter.unusedSimpArgs false
set_option linter.unusedVariables false
theorem ineg_byte (s : ByteArray) : ineg s = true ↔ 0 < s.size ∧ byt s 0 = 45 := by
  unfold ineg Lib.hasPrefix
  have hl : s.data.toList.length = s.size := Array.length_toList
  cases hd : s.data.toList with
  | nil =>
    rw [hd] at hl
    have : s.size = 0 := hl.symm
    simp [this]
  | cons c l =>
    rw [hd] at hl
    have h0 : 0 < s.size := by rw [← hl]; exact Nat.succ_pos _
    have hb := byt_list s 0 h0
    simp only [hd, List.getElem_cons_zero] at hb
    rw [hb]
    simp only [List.isPrefixOf, Bool.and_true, beq_iff_eq, h0, true_and]
    constructor
    · rintro rfl; rfl
    · intro h; exact (UInt8.toNat_inj.1 (h.trans rfl)).symm
theorem idig_neg {s : ByteArray} (h : ineg s = true) : idig s = s.extract 1 s.size := by
  have h0 := h
  unfold ineg at h0
  rw [show ([45] : List UInt8) = (⟨#[45]⟩ : ByteArray).data.toList from rfl, ← Lib.hasPrefix_raw, Bool.and_eq_true, decide_eq_true_eq] at h0
  exact Lib.trimPrefix_hit s ⟨#[45]⟩ h0.1 h0.2
theorem idig_pos {s : ByteArray} (h : ineg s = false) : idig s = s := by
  unfold ineg at h
  unfold idig Lib.trimPrefix
  rw [h]
  cases s; simp
def RP (s : ByteArray) (w' : World) (e : Ending) : Prop := ∃ v, e = .returned (.tuple #[.agg #[.bool (decide (inum s < 0)), v], .int .i64 (icode s)]) ∧ Rn w' v (inum s).natAbs
theorem rp_bad {s : ByteArray} {c : Int} (hc : icode s = c) (h0 : c ≠ 0) (w' : World) : RP s w' (.returned (.tuple #[.agg #[.bool false, .slice none 0 0], .int .i64 c])) := by
  have h1 : inum s = 0 := inum_bad (by rw [hc]; exact h0)
  refine ⟨.slice none 0 0, ?_, ?_⟩
  · rw [h1, hc]; rfl
  · rw [h1]; exact Rn.nil w'
set_option maxRecDepth 100000 in
set_option maxHeartbeats 4000000 in
theorem rp_true_3 (s d : ByteArray) (w : World) (hs : s.size ≤ 9223372036854775807) (HNG : Hid (ineg s = true)) (HD : Hid (idig s = d)) (HPC : Hid (pcode d = 3)) (HPN : Hid (pnum d = 0)) (HC : Hid (icode s = 3)) :
    Calls Tryz.prog 124 #[.string s] w fun e w' => RP s w' e ∧ Below w.heap.size w w' := by
  have hds : d.size ≤ 9223372036854775807 := by rw [← HD.out]; exact Nat.le_trans (idig_size s) hs
  obtain ⟨h00, hb0⟩ := (ineg_byte s).1 HNG.out
  have hd : s.extract 1 s.size = d := by rw [← HD.out, idig_neg HNG.out]
  have hb : (s[0]'h00).toNat = 45 := by rw [byt_at h00, hb0]
  have h1 : 1 ≤ s.size := h00
  clear hb0
  have HB0 : Hid (Below w.heap.size w (w.alloc (.cells #[.bool false, .slice none 0 0] 60))) := Lib.hid ((Below.refl _ _).alloc (Nat.le_refl _) _)
  have HX0 : Hid (Bx (w.alloc (.cells #[.bool false, .slice none 0 0] 60)) w.heap.size 60 #[.bool false, .slice none 0 0]) := Lib.hid (Bx.new _ _ _)
  go_enter Tryz.func124, Tryz.ntmps124
  go_wp2_with fail
  refine (zrparse d 0 3 _ HPN.out HPC.out hds).mono ?_
  rintro e w1 ⟨⟨v1, rfl, hv1⟩, hb1⟩
  have HX1 := Lib.hid (HX0.out.gr hb1)
  have HB1 := Lib.hid (HB0.out.trans (hb1.mono HB0.out.size))
  obtain ⟨ao, nn, cc, rfl⟩ := Rn.sl hv1
  have hlen := Rn.len hv1
  have HV1 := Lib.hid hv1
  clear hb1 hv1 HX0 HB0
  have lx := HX1.out.cells; have fx := HX1.out.free; have r0 := Gr.refl w1
  clear hlen
  go_wp2_with fail
  exact bodyPost_ret (v := .tuple #[.agg #[.bool false, .slice none 0 0], .int .i64 3]) (by simp [results, Tryz.results124, go_sem, lx w1 r0]) rfl ⟨rp_bad HC.out (by decide) _, ((HB1.out.setCell (Nat.le_refl _) _).setCell (Nat.le_refl _) _)⟩
set_option maxRecDepth 100000 in
set_option maxHeartbeats 4000000 in
theorem rp_true_4 (s d : ByteArray) (w : World) (hs : s.size ≤ 9223372036854775807) (HNG : Hid (ineg s = true)) (HD : Hid (idig s = d)) (HPC : Hid (pcode d = 4)) (HPN : Hid (pnum d = 0)) (HC : Hid (icode s = 4)) :
    Calls Tryz.prog 124 #[.string s] w fun e w' => RP s w' e ∧ Below w.heap.size w w' := by
  have hds : d.size ≤ 9223372036854775807 := by rw [← HD.out]; exact Nat.le_trans (idig_size s) hs
  obtain ⟨h00, hb0⟩ := (ineg_byte s).1 HNG.out
  have hd : s.extract 1 s.size = d := by rw [← HD.out, idig_neg HNG.out]
  have hb : (s[0]'h00).toNat = 45 := by rw [byt_at h00, hb0]
  have h1 : 1 ≤ s.size := h00
  clear hb0
  have HB0 : Hid (Below w.heap.size w (w.alloc (.cells #[.bool false, .slice none 0 0] 60))) := Lib.hid ((Below.refl _ _).alloc (Nat.le_refl _) _)
  have HX0 : Hid (Bx (w.alloc (.cells #[.bool false, .slice none 0 0] 60)) w.heap.size 60 #[.bool false, .slice none 0 0]) := Lib.hid (Bx.new _ _ _)
  go_enter Tryz.func124, Tryz.ntmps124
  go_wp2_with fail
  refine (zrparse d 0 4 _ HPN.out HPC.out hds).mono ?_
  rintro e w1 ⟨⟨v1, rfl, hv1⟩, hb1⟩
  have HX1 := Lib.hid (HX0.out.gr hb1)
  have HB1 := Lib.hid (HB0.out.trans (hb1.mono HB0.out.size))
  obtain ⟨ao, nn, cc, rfl⟩ := Rn.sl hv1
  have hlen := Rn.len hv1
  have HV1 := Lib.hid hv1
  clear hb1 hv1 HX0 HB0
  have lx := HX1.out.cells; have fx := HX1.out.free; have r0 := Gr.refl w1
  clear hlen
  go_wp2_with fail
  exact bodyPost_ret (v := .tuple #[.agg #[.bool false, .slice none 0 0], .int .i64 4]) (by simp [results, Tryz.results124, go_sem, lx w1 r0]) rfl ⟨rp_bad HC.out (by decide) _, ((HB1.out.setCell (Nat.le_refl _) _).setCell (Nat.le_refl _) _)⟩
set_option maxRecDepth 100000 in
set_option maxHeartbeats 4000000 in
theorem rp_true_z (s d : ByteArray) (w : World) (hs : s.size ≤ 9223372036854775807) (HNG : Hid (ineg s = true)) (HD : Hid (idig s = d)) (HPC : Hid (pcode d = 0)) (HPN : Hid (pnum d = 0)) (HC : Hid (icode s = 4)) :
    Calls Tryz.prog 124 #[.string s] w fun e w' => RP s w' e ∧ Below w.heap.size w w' := by
  have hds : d.size ≤ 9223372036854775807 := by rw [← HD.out]; exact Nat.le_trans (idig_size s) hs
  obtain ⟨h00, hb0⟩ := (ineg_byte s).1 HNG.out
  have hd : s.extract 1 s.size = d := by rw [← HD.out, idig_neg HNG.out]
  have hb : (s[0]'h00).toNat = 45 := by rw [byt_at h00, hb0]
  have h1 : 1 ≤ s.size := h00
  clear hb0
  have HB0 : Hid (Below w.heap.size w (w.alloc (.cells #[.bool false, .slice none 0 0] 60))) := Lib.hid ((Below.refl _ _).alloc (Nat.le_refl _) _)
  have HX0 : Hid (Bx (w.alloc (.cells #[.bool false, .slice none 0 0] 60)) w.heap.size 60 #[.bool false, .slice none 0 0]) := Lib.hid (Bx.new _ _ _)
  go_enter Tryz.func124, Tryz.ntmps124
  go_wp2_with fail
  refine (zrparse d 0 0 _ HPN.out HPC.out hds).mono ?_
  rintro e w1 ⟨⟨v1, rfl, hv1⟩, hb1⟩
  have HX1 := Lib.hid (HX0.out.gr hb1)
  have HB1 := Lib.hid (HB0.out.trans (hb1.mono HB0.out.size))
  obtain ⟨ao, nn, cc, rfl⟩ := Rn.sl hv1
  have hlen := Rn.len hv1
  have HV1 := Lib.hid hv1
  clear hb1 hv1 HX0 HB0
  have lx := HX1.out.cells; have fx := HX1.out.free; have r0 := Gr.refl w1
  have hlz2 : ((nn : Int) == 0) = true := by rw [hlen, tw_zero]; rfl
  clear hlen
  go_wp2_with fail
  exact bodyPost_ret (v := .tuple #[.agg #[.bool false, .slice none 0 0], .int .i64 4]) (by simp [results, Tryz.results124, go_sem, lx w1 r0]) rfl ⟨rp_bad HC.out (by decide) _, ((HB1.out.setCell (Nat.le_refl _) _).setCell (Nat.le_refl _) _)⟩
set_option maxRecDepth 100000 in
set_option maxHeartbeats 4000000 in
theorem rp_true_n (s d : ByteArray) (w : World) (hs : s.size ≤ 9223372036854775807) (HNG : Hid (ineg s = true)) (HD : Hid (idig s = d)) (HPC : Hid (pcode d = 0)) (n : Nat) (z : Int) (HPN : Hid (pnum d = n)) (hn : 0 < n) (hnw : tw n ≤ 1100) (HZ : Hid (-((n : Nat) : Int) = z)) (HC : Hid (icode s = 0)) (HIZ : Hid (inum s = z)) :
    Calls Tryz.prog 124 #[.string s] w fun e w' => RP s w' e ∧ Below w.heap.size w w' := by
  have hds : d.size ≤ 9223372036854775807 := by rw [← HD.out]; exact Nat.le_trans (idig_size s) hs
  obtain ⟨h00, hb0⟩ := (ineg_byte s).1 HNG.out
  have hd : s.extract 1 s.size = d := by rw [← HD.out, idig_neg HNG.out]
  have hb : (s[0]'h00).toNat = 45 := by rw [byt_at h00, hb0]
  have h1 : 1 ≤ s.size := h00
  clear hb0
  have HB0 : Hid (Below w.heap.size w (w.alloc (.cells #[.bool false, .slice none 0 0] 60))) := Lib.hid ((Below.refl _ _).alloc (Nat.le_refl _) _)
  have HX0 : Hid (Bx (w.alloc (.cells #[.bool false, .slice none 0 0] 60)) w.heap.size 60 #[.bool false, .slice none 0 0]) := Lib.hid (Bx.new _ _ _)
  go_enter Tryz.func124, Tryz.ntmps124
  go_wp2_with fail
  refine (zrparse d n 0 _ HPN.out HPC.out hds).mono ?_
  rintro e w1 ⟨⟨v1, rfl, hv1⟩, hb1⟩
  have HX1 := Lib.hid (HX0.out.gr hb1)
  have HB1 := Lib.hid (HB0.out.trans (hb1.mono HB0.out.size))
  obtain ⟨ao, nn, cc, rfl⟩ := Rn.sl hv1
  have hlen := Rn.len hv1
  have HV1 := Lib.hid hv1
  clear hb1 hv1 HX0 HB0
  have lx := HX1.out.cells; have fx := HX1.out.free; have r0 := Gr.refl w1
  have ht : 0 < tw n := tw_pos (by omega)
  have hlz2 : ((nn : Int) == 0) = false := by have h9 : ¬ (nn : Int) = 0 := (by omega); simpa using h9
  clear ht hlen hn hnw
  go_wp2_with fail
  refine (zfrom_any true n z _ _ (by first | exact HZ.out | (simp; exact HZ.out)) HV1.out).mono ?_
  rintro e w2 ⟨⟨v2, rfl, hv2⟩, hb2⟩
  have HX2 := Lib.hid (HX1.out.gr hb2)
  have HB2 := Lib.hid (HB1.out.trans (hb2.mono HB1.out.size))
  obtain ⟨ao2, nn2, cc2, rfl⟩ := Rn.sl hv2
  have HV2 := Lib.hid hv2
  clear hb2 hv2 lx fx r0
  have lx := HX2.out.cells; have fx := HX2.out.free; have r0 := Gr.refl w2
  go_wp2_with fail
  exact bodyPost_ret (v := .tuple #[.agg #[.bool (decide ((z : Int) < 0)), .slice ao2 nn2 cc2], .int .i64 0]) (by simp [results, Tryz.results124, go_sem, lx w2 r0]) rfl ⟨⟨_, by rw [HC.out, HIZ.out], by rw [HIZ.out]; exact (HV2.out.setOther (Rn.ne HV2.out HX2.out (by decide)) _).setOther (Rn.ne HV2.out HX2.out (by decide)) _⟩, (HB2.out.setCell (Nat.le_refl _) _).setCell (Nat.le_refl _) _⟩
set_option maxRecDepth 100000 in
set_option maxHeartbeats 4000000 in
theorem rp_false_3 (s d : ByteArray) (w : World) (hs : s.size ≤ 9223372036854775807) (HNG : Hid (ineg s = false)) (HD : Hid (idig s = d)) (HPC : Hid (pcode d = 3)) (HPN : Hid (pnum d = 0)) (HC : Hid (icode s = 3)) :
    Calls Tryz.prog 124 #[.string s] w fun e w' => RP s w' e ∧ Below w.heap.size w w' := by
  have hds : d.size ≤ 9223372036854775807 := by rw [← HD.out]; exact Nat.le_trans (idig_size s) hs
  obtain rfl : s = d := by rw [← HD.out, idig_pos HNG.out]
  have hnb : ∀ h : 0 < s.size, ¬ (s[0]'h).toNat = 45 := fun h1 h2 => by have h3 := (ineg_byte s).2 ⟨h1, by rw [← byt_at h1]; exact h2⟩; rw [HNG.out] at h3; cases h3
  have HB0 : Hid (Below w.heap.size w (w.alloc (.cells #[.bool false, .slice none 0 0] 60))) := Lib.hid ((Below.refl _ _).alloc (Nat.le_refl _) _)
  have HX0 : Hid (Bx (w.alloc (.cells #[.bool false, .slice none 0 0] 60)) w.heap.size 60 #[.bool false, .slice none 0 0]) := Lib.hid (Bx.new _ _ _)
  by_cases h00 : 0 < s.size
  · have hb := hnb h00
    clear hnb
    go_enter Tryz.func124, Tryz.ntmps124
    go_wp2_with fail
    refine (zrparse s 0 3 _ HPN.out HPC.out hds).mono ?_
    rintro e w1 ⟨⟨v1, rfl, hv1⟩, hb1⟩
    have HX1 := Lib.hid (HX0.out.gr hb1)
    have HB1 := Lib.hid (HB0.out.trans (hb1.mono HB0.out.size))
    obtain ⟨ao, nn, cc, rfl⟩ := Rn.sl hv1
    have hlen := Rn.len hv1
    have HV1 := Lib.hid hv1
    clear hb1 hv1 HX0 HB0
    have lx := HX1.out.cells; have fx := HX1.out.free; have r0 := Gr.refl w1
    clear hlen
    go_wp2_with fail
    exact bodyPost_ret (v := .tuple #[.agg #[.bool false, .slice none 0 0], .int .i64 3]) (by simp [results, Tryz.results124, go_sem, lx w1 r0]) rfl ⟨rp_bad HC.out (by decide) _, ((HB1.out.setCell (Nat.le_refl _) _).setCell (Nat.le_refl _) _)⟩
  · clear hnb
    go_enter Tryz.func124, Tryz.ntmps124
    go_wp2_with fail
    refine (zrparse s 0 3 _ HPN.out HPC.out hds).mono ?_
    rintro e w1 ⟨⟨v1, rfl, hv1⟩, hb1⟩
    have HX1 := Lib.hid (HX0.out.gr hb1)
    have HB1 := Lib.hid (HB0.out.trans (hb1.mono HB0.out.size))
    obtain ⟨ao, nn, cc, rfl⟩ := Rn.sl hv1
    have hlen := Rn.len hv1
    have HV1 := Lib.hid hv1
    clear hb1 hv1 HX0 HB0
    have lx := HX1.out.cells; have fx := HX1.out.free; have r0 := Gr.refl w1
    clear hlen
    go_wp2_with fail
    exact bodyPost_ret (v := .tuple #[.agg #[.bool false, .slice none 0 0], .int .i64 3]) (by simp [results, Tryz.results124, go_sem, lx w1 r0]) rfl ⟨rp_bad HC.out (by decide) _, ((HB1.out.setCell (Nat.le_refl _) _).setCell (Nat.le_refl _) _)⟩
set_option maxRecDepth 100000 in
set_option maxHeartbeats 4000000 in
theorem rp_false_4 (s d : ByteArray) (w : World) (hs : s.size ≤ 9223372036854775807) (HNG : Hid (ineg s = false)) (HD : Hid (idig s = d)) (HPC : Hid (pcode d = 4)) (HPN : Hid (pnum d = 0)) (HC : Hid (icode s = 4)) :
    Calls Tryz.prog 124 #[.string s] w fun e w' => RP s w' e ∧ Below w.heap.size w w' := by
  have hds : d.size ≤ 9223372036854775807 := by rw [← HD.out]; exact Nat.le_trans (idig_size s) hs
  obtain rfl : s = d := by rw [← HD.out, idig_pos HNG.out]
  have hnb : ∀ h : 0 < s.size, ¬ (s[0]'h).toNat = 45 := fun h1 h2 => by have h3 := (ineg_byte s).2 ⟨h1, by rw [← byt_at h1]; exact h2⟩; rw [HNG.out] at h3; cases h3
  have HB0 : Hid (Below w.heap.size w (w.alloc (.cells #[.bool false, .slice none 0 0] 60))) := Lib.hid ((Below.refl _ _).alloc (Nat.le_refl _) _)
  have HX0 : Hid (Bx (w.alloc (.cells #[.bool false, .slice none 0 0] 60)) w.heap.size 60 #[.bool false, .slice none 0 0]) := Lib.hid (Bx.new _ _ _)
  by_cases h00 : 0 < s.size
  · have hb := hnb h00
    clear hnb
    go_enter Tryz.func124, Tryz.ntmps124
    go_wp2_with fail
    refine (zrparse s 0 4 _ HPN.out HPC.out hds).mono ?_
    rintro e w1 ⟨⟨v1, rfl, hv1⟩, hb1⟩
    have HX1 := Lib.hid (HX0.out.gr hb1)
    have HB1 := Lib.hid (HB0.out.trans (hb1.mono HB0.out.size))
    obtain ⟨ao, nn, cc, rfl⟩ := Rn.sl hv1
    have hlen := Rn.len hv1
    have HV1 := Lib.hid hv1
    clear hb1 hv1 HX0 HB0
    have lx := HX1.out.cells; have fx := HX1.out.free; have r0 := Gr.refl w1
    clear hlen
    go_wp2_with fail
    exact bodyPost_ret (v := .tuple #[.agg #[.bool false, .slice none 0 0], .int .i64 4]) (by simp [results, Tryz.results124, go_sem, lx w1 r0]) rfl ⟨rp_bad HC.out (by decide) _, ((HB1.out.setCell (Nat.le_refl _) _).setCell (Nat.le_refl _) _)⟩
  · clear hnb
    go_enter Tryz.func124, Tryz.ntmps124
    go_wp2_with fail
    refine (zrparse s 0 4 _ HPN.out HPC.out hds).mono ?_
    rintro e w1 ⟨⟨v1, rfl, hv1⟩, hb1⟩
    have HX1 := Lib.hid (HX0.out.gr hb1)
    have HB1 := Lib.hid (HB0.out.trans (hb1.mono HB0.out.size))
    obtain ⟨ao, nn, cc, rfl⟩ := Rn.sl hv1
    have hlen := Rn.len hv1
    have HV1 := Lib.hid hv1
    clear hb1 hv1 HX0 HB0
    have lx := HX1.out.cells; have fx := HX1.out.free; have r0 := Gr.refl w1
    clear hlen
    go_wp2_with fail
    exact bodyPost_ret (v := .tuple #[.agg #[.bool false, .slice none 0 0], .int .i64 4]) (by simp [results, Tryz.results124, go_sem, lx w1 r0]) rfl ⟨rp_bad HC.out (by decide) _, ((HB1.out.setCell (Nat.le_refl _) _).setCell (Nat.le_refl _) _)⟩
set_option maxRecDepth 100000 in
set_option maxHeartbeats 4000000 in
theorem rp_false_z (s d : ByteArray) (w : World) (hs : s.size ≤ 9223372036854775807) (HNG : Hid (ineg s = false)) (HD : Hid (idig s = d)) (HPC : Hid (pcode d = 0)) (HPN : Hid (pnum d = 0)) (HC : Hid (icode s = 0)) (HIZ : Hid (inum s = 0)) :
    Calls Tryz.prog 124 #[.string s] w fun e w' => RP s w' e ∧ Below w.heap.size w w' := by
  have hds : d.size ≤ 9223372036854775807 := by rw [← HD.out]; exact Nat.le_trans (idig_size s) hs
  obtain rfl : s = d := by rw [← HD.out, idig_pos HNG.out]
  have hnb : ∀ h : 0 < s.size, ¬ (s[0]'h).toNat = 45 := fun h1 h2 => by have h3 := (ineg_byte s).2 ⟨h1, by rw [← byt_at h1]; exact h2⟩; rw [HNG.out] at h3; cases h3
  have HB0 : Hid (Below w.heap.size w (w.alloc (.cells #[.bool false, .slice none 0 0] 60))) := Lib.hid ((Below.refl _ _).alloc (Nat.le_refl _) _)
  have HX0 : Hid (Bx (w.alloc (.cells #[.bool false, .slice none 0 0] 60)) w.heap.size 60 #[.bool false, .slice none 0 0]) := Lib.hid (Bx.new _ _ _)
  by_cases h00 : 0 < s.size
  · have hb := hnb h00
    clear hnb
    go_enter Tryz.func124, Tryz.ntmps124
    go_wp2_with fail
    refine (zrparse s 0 0 _ HPN.out HPC.out hds).mono ?_
    rintro e w1 ⟨⟨v1, rfl, hv1⟩, hb1⟩
    have HX1 := Lib.hid (HX0.out.gr hb1)
    have HB1 := Lib.hid (HB0.out.trans (hb1.mono HB0.out.size))
    obtain ⟨ao, nn, cc, rfl⟩ := Rn.sl hv1
    have hlen := Rn.len hv1
    have HV1 := Lib.hid hv1
    clear hb1 hv1 HX0 HB0
    have lx := HX1.out.cells; have fx := HX1.out.free; have r0 := Gr.refl w1
    have hlz2 : ((nn : Int) == 0) = true := by rw [hlen, tw_zero]; rfl
    clear hlen
    go_wp2_with fail
    refine (zfrom_any false 0 0 _ _ rfl HV1.out).mono ?_
    rintro e w2 ⟨⟨v2, rfl, hv2⟩, hb2⟩
    have HX2 := Lib.hid (HX1.out.gr hb2)
    have HB2 := Lib.hid (HB1.out.trans (hb2.mono HB1.out.size))
    obtain ⟨ao2, nn2, cc2, rfl⟩ := Rn.sl hv2
    have HV2 := Lib.hid hv2
    clear hb2 hv2 lx fx r0
    have lx := HX2.out.cells; have fx := HX2.out.free; have r0 := Gr.refl w2
    go_wp2_with fail
    exact bodyPost_ret (v := .tuple #[.agg #[.bool (decide ((0 : Int) < 0)), .slice ao2 nn2 cc2], .int .i64 0]) (by simp [results, Tryz.results124, go_sem, lx w2 r0]) rfl ⟨⟨_, by rw [HC.out, HIZ.out], by rw [HIZ.out]; exact (HV2.out.setOther (Rn.ne HV2.out HX2.out (by decide)) _).setOther (Rn.ne HV2.out HX2.out (by decide)) _⟩, (HB2.out.setCell (Nat.le_refl _) _).setCell (Nat.le_refl _) _⟩
  · clear hnb
    go_enter Tryz.func124, Tryz.ntmps124
    go_wp2_with fail
    refine (zrparse s 0 0 _ HPN.out HPC.out hds).mono ?_
    rintro e w1 ⟨⟨v1, rfl, hv1⟩, hb1⟩
    have HX1 := Lib.hid (HX0.out.gr hb1)
    have HB1 := Lib.hid (HB0.out.trans (hb1.mono HB0.out.size))
    obtain ⟨ao, nn, cc, rfl⟩ := Rn.sl hv1
    have hlen := Rn.len hv1
    have HV1 := Lib.hid hv1
    clear hb1 hv1 HX0 HB0
    have lx := HX1.out.cells; have fx := HX1.out.free; have r0 := Gr.refl w1
    have hlz2 : ((nn : Int) == 0) = true := by rw [hlen, tw_zero]; rfl
    clear hlen
    go_wp2_with fail
    refine (zfrom_any false 0 0 _ _ rfl HV1.out).mono ?_
    rintro e w2 ⟨⟨v2, rfl, hv2⟩, hb2⟩
    have HX2 := Lib.hid (HX1.out.gr hb2)
    have HB2 := Lib.hid (HB1.out.trans (hb2.mono HB1.out.size))
    obtain ⟨ao2, nn2, cc2, rfl⟩ := Rn.sl hv2
    have HV2 := Lib.hid hv2
    clear hb2 hv2 lx fx r0
    have lx := HX2.out.cells; have fx := HX2.out.free; have r0 := Gr.refl w2
    go_wp2_with fail
    exact bodyPost_ret (v := .tuple #[.agg #[.bool (decide ((0 : Int) < 0)), .slice ao2 nn2 cc2], .int .i64 0]) (by simp [results, Tryz.results124, go_sem, lx w2 r0]) rfl ⟨⟨_, by rw [HC.out, HIZ.out], by rw [HIZ.out]; exact (HV2.out.setOther (Rn.ne HV2.out HX2.out (by decide)) _).setOther (Rn.ne HV2.out HX2.out (by decide)) _⟩, (HB2.out.setCell (Nat.le_refl _) _).setCell (Nat.le_refl _) _⟩
set_option maxRecDepth 100000 in
set_option maxHeartbeats 4000000 in
theorem rp_false_n (s d : ByteArray) (w : World) (hs : s.size ≤ 9223372036854775807) (HNG : Hid (ineg s = false)) (HD : Hid (idig s = d)) (HPC : Hid (pcode d = 0)) (n : Nat) (z : Int) (HPN : Hid (pnum d = n)) (hn : 0 < n) (hnw : tw n ≤ 1100) (HZ : Hid (((n : Nat) : Int) = z)) (HC : Hid (icode s = 0)) (HIZ : Hid (inum s = z)) :
    Calls Tryz.prog 124 #[.string s] w fun e w' => RP s w' e ∧ Below w.heap.size w w' := by
  have hds : d.size ≤ 9223372036854775807 := by rw [← HD.out]; exact Nat.le_trans (idig_size s) hs
  obtain rfl : s = d := by rw [← HD.out, idig_pos HNG.out]
  have hnb : ∀ h : 0 < s.size, ¬ (s[0]'h).toNat = 45 := fun h1 h2 => by have h3 := (ineg_byte s).2 ⟨h1, by rw [← byt_at h1]; exact h2⟩; rw [HNG.out] at h3; cases h3
  have HB0 : Hid (Below w.heap.size w (w.alloc (.cells #[.bool false, .slice none 0 0] 60))) := Lib.hid ((Below.refl _ _).alloc (Nat.le_refl _) _)
  have HX0 : Hid (Bx (w.alloc (.cells #[.bool false, .slice none 0 0] 60)) w.heap.size 60 #[.bool false, .slice none 0 0]) := Lib.hid (Bx.new _ _ _)
  by_cases h00 : 0 < s.size
  · have hb := hnb h00
    clear hnb
    go_enter Tryz.func124, Tryz.ntmps124
    go_wp2_with fail
    refine (zrparse s n 0 _ HPN.out HPC.out hds).mono ?_
    rintro e w1 ⟨⟨v1, rfl, hv1⟩, hb1⟩
    have HX1 := Lib.hid (HX0.out.gr hb1)
    have HB1 := Lib.hid (HB0.out.trans (hb1.mono HB0.out.size))
    obtain ⟨ao, nn, cc, rfl⟩ := Rn.sl hv1
    have hlen := Rn.len hv1
    have HV1 := Lib.hid hv1
    clear hb1 hv1 HX0 HB0
    have lx := HX1.out.cells; have fx := HX1.out.free; have r0 := Gr.refl w1
    have ht : 0 < tw n := tw_pos (by omega)
    have hlz2 : ((nn : Int) == 0) = false := by have h9 : ¬ (nn : Int) = 0 := (by omega); simpa using h9
    clear ht hlen hn hnw
    go_wp2_with fail
    refine (zfrom_any false n z _ _ (by first | exact HZ.out | (simp; exact HZ.out)) HV1.out).mono ?_
    rintro e w2 ⟨⟨v2, rfl, hv2⟩, hb2⟩
    have HX2 := Lib.hid (HX1.out.gr hb2)
    have HB2 := Lib.hid (HB1.out.trans (hb2.mono HB1.out.size))
    obtain ⟨ao2, nn2, cc2, rfl⟩ := Rn.sl hv2
    have HV2 := Lib.hid hv2
    clear hb2 hv2 lx fx r0
    have lx := HX2.out.cells; have fx := HX2.out.free; have r0 := Gr.refl w2
    go_wp2_with fail
    exact bodyPost_ret (v := .tuple #[.agg #[.bool (decide ((z : Int) < 0)), .slice ao2 nn2 cc2], .int .i64 0]) (by simp [results, Tryz.results124, go_sem, lx w2 r0]) rfl ⟨⟨_, by rw [HC.out, HIZ.out], by rw [HIZ.out]; exact (HV2.out.setOther (Rn.ne HV2.out HX2.out (by decide)) _).setOther (Rn.ne HV2.out HX2.out (by decide)) _⟩, (HB2.out.setCell (Nat.le_refl _) _).setCell (Nat.le_refl _) _⟩
  · clear hnb
    go_enter Tryz.func124, Tryz.ntmps124
    go_wp2_with fail
    refine (zrparse s n 0 _ HPN.out HPC.out hds).mono ?_
    rintro e w1 ⟨⟨v1, rfl, hv1⟩, hb1⟩
    have HX1 := Lib.hid (HX0.out.gr hb1)
    have HB1 := Lib.hid (HB0.out.trans (hb1.mono HB0.out.size))
    obtain ⟨ao, nn, cc, rfl⟩ := Rn.sl hv1
    have hlen := Rn.len hv1
    have HV1 := Lib.hid hv1
    clear hb1 hv1 HX0 HB0
    have lx := HX1.out.cells; have fx := HX1.out.free; have r0 := Gr.refl w1
    have ht : 0 < tw n := tw_pos (by omega)
    have hlz2 : ((nn : Int) == 0) = false := by have h9 : ¬ (nn : Int) = 0 := (by omega); simpa using h9
    clear ht hlen hn hnw
    go_wp2_with fail
    refine (zfrom_any false n z _ _ (by first | exact HZ.out | (simp; exact HZ.out)) HV1.out).mono ?_
    rintro e w2 ⟨⟨v2, rfl, hv2⟩, hb2⟩
    have HX2 := Lib.hid (HX1.out.gr hb2)
    have HB2 := Lib.hid (HB1.out.trans (hb2.mono HB1.out.size))
    obtain ⟨ao2, nn2, cc2, rfl⟩ := Rn.sl hv2
    have HV2 := Lib.hid hv2
    clear hb2 hv2 lx fx r0
    have lx := HX2.out.cells; have fx := HX2.out.free; have r0 := Gr.refl w2
    go_wp2_with fail
    exact bodyPost_ret (v := .tuple #[.agg #[.bool (decide ((z : Int) < 0)), .slice ao2 nn2 cc2], .int .i64 0]) (by simp [results, Tryz.results124, go_sem, lx w2 r0]) rfl ⟨⟨_, by rw [HC.out, HIZ.out], by rw [HIZ.out]; exact (HV2.out.setOther (Rn.ne HV2.out HX2.out (by decide)) _).setOther (Rn.ne HV2.out HX2.out (by decide)) _⟩, (HB2.out.setCell (Nat.le_refl _) _).setCell (Nat.le_refl _) _⟩
theorem rzparse_any (s : ByteArray) (w : World) (hs : s.size ≤ 9223372036854775807) :
    Calls Tryz.prog 124 #[.string s] w fun e w' => RP s w' e ∧ Below w.heap.size w w' := by
  rcases pcode_cases (idig s) with hc | hc | hc
  · obtain ⟨n, hn⟩ : ∃ n, pnum (idig s) = n := ⟨_, rfl⟩
    have hw : tw n ≤ 1100 := by rw [← hn]; exact Nat.le_trans (tw_le.2 (pnum_tp (idig s) 1024 rfl)) (by decide)
    cases hb : ineg s
    · have h1 : icode s = 0 := icode_good hc (fun h => by rw [hb] at h; exact absurd h.1 (by decide))
      have h2 : inum s = ((n : Nat) : Int) := by rw [inum_good h1, hb, hn]; rfl
      by_cases h0 : n = 0
      · subst h0
        exact rp_false_z s _ w hs (Lib.hid hb) (Lib.hid rfl) (Lib.hid hc) (Lib.hid hn) (Lib.hid h1) (Lib.hid h2)
      · exact rp_false_n s _ w hs (Lib.hid hb) (Lib.hid rfl) (Lib.hid hc) n _ (Lib.hid hn) (by omega) hw (Lib.hid rfl) (Lib.hid h1) (Lib.hid h2)
    · by_cases h0 : n = 0
      · have h1 : icode s = 4 := icode_zero hc hb (by rw [hn, h0])
        exact rp_true_z s _ w hs (Lib.hid hb) (Lib.hid rfl) (Lib.hid hc) (Lib.hid (hn.trans h0)) (Lib.hid h1)
      · have h1 : icode s = 0 := icode_good hc (fun h => h0 (by rw [← hn]; exact h.2))
        have h2 : inum s = -((n : Nat) : Int) := by rw [inum_good h1, hb, hn]; rfl
        exact rp_true_n s _ w hs (Lib.hid hb) (Lib.hid rfl) (Lib.hid hc) n _ (Lib.hid hn) (by omega) hw (Lib.hid rfl) (Lib.hid h1) (Lib.hid h2)
  all_goals
    have hn := pnum_zero (s := idig s) (by rw [hc]; decide)
    have h1 := (icode_bad (s := s) (by rw [hc]; decide)).trans hc
    cases hb : ineg s
  · exact rp_false_3 s _ w hs (Lib.hid hb) (Lib.hid rfl) (Lib.hid hc) (Lib.hid hn) (Lib.hid h1)
  · exact rp_true_3 s _ w hs (Lib.hid hb) (Lib.hid rfl) (Lib.hid hc) (Lib.hid hn) (Lib.hid h1)
  · exact rp_false_4 s _ w hs (Lib.hid hb) (Lib.hid rfl) (Lib.hid hc) (Lib.hid hn) (Lib.hid h1)
  · exact rp_true_4 s _ w hs (Lib.hid hb) (Lib.hid rfl) (Lib.hid hc) (Lib.hid hn) (Lib.hid h1)
end Go.Proofs.YtpcfncbcpknobaaGreatDoor
