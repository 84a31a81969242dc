
/- RootsOrder: the law's walk. -/
import Derived.Test.YtaflakcemiilaaaGreatDoorRot6
import Derived.Test.YtaflakcemiilaaaGreatDoorPL
import Derived.Test.YtaflakcemiilaaaGreatDoorQs
import Derived.Test.YtaflakcemiilaaaGreatDoorHpB
import Derived.Test.YtaflakcemiilaaaGreatDoorSgnR
import Derived.Test.YtaflakcemiilaaaGreatDoorGreatP
import Derived.Test.YtaflakcemiilaaaGreatDoorHp2
import Derived.Test.YtaflakcemiilaaaGreatDoorEarly
namespace Go.Proofs.YtaflakcemiilaaaGreatDoor
open Go.RowKit
set_option linter.unusedSimpArgs false
set_option linter.unusedVariables false
attribute [local go_sem ↓] Go.wp_at_zero Go.wp_at_succ
attribute [local go_sem ↓] eq_nat eq_nat_zero eq_int eq_frac eq_frac_zero
attribute [local go_sem] Instr.field asAgg
theorem sgQ_eq05 {a : Rat} (h : sgQ a = 0) : a = 0 := by
  rcases sgQ_cases a with ⟨_, e⟩ | ⟨c, _⟩ | ⟨_, e⟩
  · rw [e] at h; exact absurd h (by decide)
  · exact c
  · rw [e] at h; exact absurd h (by decide)

/-- what Order tells of numbers that are not negative -/
def ordv (a b s : Rat) : Int := if s - (a + b) < 0 then 1 else sgQ ((4 : Rat) * (a * b) - (s - (a + b)) * (s - (a + b)))
theorem zorder (a b s : Rat) (v : Value) (n : Nat) (f : Nat → Rat) (c : Int) (w : World) (HFS : Hid (Fs w v n f)) (hn : n ≤ 1000000) (HSZ : Hid (∀ i, i < n → sz (f i) ≤ 1000)) (HSUM : Hid (qsum f n = s)) (hss : sz s ≤ 1000000) (hsa : sz a ≤ 1000000) (hsb : sz b ≤ 1000000) (ha : 0 ≤ a) (hb : 0 ≤ b) (hs : 0 ≤ s) (hc : ordv a b s = c) :
    Calls Tryz.prog 34 #[(Value.agg #[.int .u64 ((lo (Int.natAbs ((a).num)) : Nat) : Int), .string (bg (Int.natAbs ((a).num))), .bool (decide (((a).num) < 0)), .int .u64 ((lo ((a).den - 1) : Nat) : Int), .string (bg ((a).den - 1))]), (Value.agg #[.int .u64 ((lo (Int.natAbs ((b).num)) : Nat) : Int), .string (bg (Int.natAbs ((b).num))), .bool (decide (((b).num) < 0)), .int .u64 ((lo ((b).den - 1) : Nat) : Int), .string (bg ((b).den - 1))]), v] w fun e w' => e = .returned (.tuple #[.int .i64 c, .int .i64 0]) ∧ Below w.heap.size w w' := by
  unfold ordv at hc
  by_cases h : s - (a + b) < 0
  · rw [if_pos h] at hc
    subst hc
    exact rorder_1 a b s v n f _ w HFS hn HSZ HSUM hss hsa hsb (Lib.hid ha) (Lib.hid hb) (Lib.hid hs) (Lib.hid rfl) (Lib.hid h)
  · rw [if_neg h] at hc
    exact rorder_c a b s v n f _ c w HFS hn HSZ HSUM hss hsa hsb (Lib.hid ha) (Lib.hid hb) (Lib.hid hs) (Lib.hid rfl) (Lib.hid (by grind)) (Lib.hid hc)
theorem ordv_lt {a b s l1 l2 h : Rat} (a0 : 0 ≤ a) (b0 : 0 ≤ b) (n1 : 0 ≤ l1) (n2 : 0 ≤ l2) (n3 : 0 ≤ h) (h1 : l1 * l1 ≤ a) (h2 : l2 * l2 ≤ b) (h3 : s ≤ h * h) (hc : ordv a b s = -1) : l1 + l2 < h := by
  unfold ordv at hc
  by_cases hl : s - (a + b) < 0
  · rw [if_pos hl] at hc; exact absurd hc (by decide)
  · rw [if_neg hl] at hc
    obtain ⟨l, hle⟩ : ∃ l, s - (a + b) = l := ⟨_, rfl⟩
    rw [hle] at hl hc
    have hlt : 4 * (a * b) < l * l := by
      rcases sgQ_cases ((4 : Rat) * (a * b) - l * l) with ⟨c, _⟩ | ⟨_, e⟩ | ⟨_, e⟩
      · grind
      · rw [e] at hc; exact absurd hc (by decide)
      · rw [e] at hc; exact absurd hc (by decide)
    have e1 : 0 ≤ l := by grind
    have e2 : 0 ≤ l1 * l2 := Rat.mul_nonneg n1 n2
    have e3 : l1 * l1 * (l2 * l2) ≤ a * b := Rat.le_trans (Rat.mul_le_mul_of_nonneg_right h1 (sq_nn _)) (Rat.mul_le_mul_of_nonneg_left h2 a0)
    have e4 : 2 * (l1 * l2) < l := qsq_lt (by grind) e1 (by grind)
    exact qsq_lt (by grind) n3 (by grind)
theorem ordv_le {a b s l1 l2 h : Rat} (a0 : 0 ≤ a) (b0 : 0 ≤ b) (n1 : 0 ≤ l1) (n2 : 0 ≤ l2) (n3 : 0 ≤ h) (h1 : l1 * l1 ≤ a) (h2 : l2 * l2 ≤ b) (h3 : s ≤ h * h) (hc : ordv a b s = 0) : l1 + l2 ≤ h := by
  unfold ordv at hc
  by_cases hl : s - (a + b) < 0
  · rw [if_pos hl] at hc; exact absurd hc (by decide)
  · rw [if_neg hl] at hc
    have := sgQ_eq05 hc
    exact ord_lo n1 n2 n3 h1 h2 h3 rfl hl (by grind)
theorem ordv_ge {a b s h1 h2 l : Rat} (a0 : 0 ≤ a) (b0 : 0 ≤ b) (n1 : 0 ≤ h1) (n2 : 0 ≤ h2) (n3 : 0 ≤ l) (e1 : a ≤ h1 * h1) (e2 : b ≤ h2 * h2) (e3 : l * l ≤ s) (hc : 0 ≤ ordv a b s) : l ≤ h1 + h2 := by
  refine ord_hi a0 b0 n1 n2 n3 e1 e2 e3 rfl ?_
  unfold ordv at hc
  by_cases hl : s - (a + b) < 0
  · exact .inl hl
  · rw [if_neg hl] at hc
    right
    rcases sgQ_cases ((4 : Rat) * (a * b) - (s - (a + b)) * (s - (a + b))) with ⟨_, e⟩ | ⟨c, _⟩ | ⟨c, _⟩
    · rw [e] at hc; exact absurd hc (by decide)
    · grind
    · grind
theorem ordv_self {a b : Rat} (a0 : 0 ≤ a) (b0 : 0 ≤ b) : 0 ≤ ordv a b (a + b) ∧ (ordv a b (a + b) = 0 ↔ a = 0 ∨ b = 0) := by
  have e : ordv a b (a + b) = sgQ (a * b) := by
    unfold ordv
    have h0 : a + b - (a + b) = 0 := by grind
    rw [h0, if_neg (by decide +kernel)]
    have h1 : (4 : Rat) * (a * b) - 0 * 0 = 4 * (a * b) := by grind
    rw [h1]
    rcases sgQ_cases (a * b) with ⟨c, e⟩ | ⟨c, e⟩ | ⟨c, e⟩
    · rw [e]; exact sgQ_neg (by grind)
    · rw [e]; rw [c]; decide +kernel
    · rw [e]; exact sgQ_pos (by grind)
  rw [e]
  have h := Rat.mul_nonneg a0 b0
  constructor
  · exact sgQ_nn0 h
  · constructor
    · intro hz
      have hz := sgQ_eq05 hz
      rcases (show a = 0 ∨ 0 < a by grind) with c | c
      · exact .inl c
      · rcases (show b = 0 ∨ 0 < b by grind) with d | d
        · exact .inr d
        · have := Rat.mul_pos c d; grind
    · rintro (c | c) <;> rw [c]
      · rw [Rat.zero_mul]; rfl
      · rw [Rat.mul_zero]; rfl
theorem ordv_sq {a b s : Rat} (a0 : 0 ≤ a) (b0 : 0 ≤ b) (s0 : 0 ≤ s) : ordv (a * a) (b * b) (s * s) = sgQ (a + b - s) := by
  obtain ⟨h1, h2⟩ := ord_sq a0 b0 s0 rfl
  unfold ordv
  by_cases h : s * s - (a * a + b * b) < 0
  · rw [if_pos h, sgQ_pos (h1 h)]
  · rw [if_neg h]; exact h2 h
theorem sgQ_ge0 {x y : Rat} (h : y ≤ x) : ¬ sgQ (x - y) < 0 := by
  have := sgQ_nn0 (show 0 ≤ x - y by grind); omega

set_option maxRecDepth 100000 in
set_option maxHeartbeats 16000000 in
theorem order_main (n1 d1 n2 d2 : Int) (v : Value) (n : Nat) (N D : Nat → Int) (x0 y0 a b su : Rat) (f : Nat → Rat) (w : World) (h1_1 : -9223372036854775808 ≤ n1) (h2_1 : n1 ≤ 9223372036854775807) (h3_1 : 0 ≤ d1) (h4_1 : d1 ≤ 4294967295) (h1_2 : -9223372036854775808 ≤ n2) (h2_2 : n2 ≤ 9223372036854775807) (h3_2 : 0 ≤ d2) (h4_2 : d2 ≤ 4294967295) (HQ : Hid (Qs w v n N D)) (HQB : Hid (Qb n N D)) (hn6 : n ≤ 6) (HX0 : Hid (qv n1 d1 = x0)) (HY0 : Hid (qv n2 d2 = y0)) (HX1 : Hid (qabs x0 = a)) (HY1 : Hid (qabs y0 = b)) (HA0 : Hid (0 ≤ a)) (HB0 : Hid (0 ≤ b)) (hsa : sz a ≤ 4) (hsb : sz b ≤ 4) (Hf : Hid (∀ i, qv (N i) (D i) = f i)) (HSU : Hid (qsum f n = su)) (hssu : sz su ≤ 101) (HSa : Hid (∀ i, i < n → sz (f i) ≤ 1000)) (HT : Hid (Tab w)) :
    Calls Tryz.prog 8 #[.agg #[.int .i64 n1, .int .u32 d1], .agg #[.int .i64 n2, .int .u32 d2], v] w fun e w' => e = .returned (.bool true) ∧ Below w.heap.size w w' := by
  obtain ⟨ao, c, rfl⟩ := HQ.out.slice
  obtain ⟨i0, hi, hz0, hz1, hz2⟩ := info_parts info_Frac5
  have hw1 : IntKind.i64.wrap 1 = 1 := by decide
  have hw2 : IntKind.i64.wrap 2 = 2 := by decide
  have hszr : sz (0 : Rat) ≤ 1 := sz_of (wl_le.2 (by decide +kernel)) (wl_le.2 (by decide +kernel))
  go_enter Tryz.func8, Tryz.ntmps8
  have HF := Lib.hid (hp0 w)
  refine kS fun K hK => ?_
  refine wp_region_lit ?_
  go_wp2
  refine hK.out _ _ ?_; clear hK K
  show Code.wp _ _ _ _ _
  refine fH (((HF.out).al (b := w.heap.size) (by first | rfl | simp) (by decide)).al (b := w.heap.size + 1) (by first | rfl | simp) (by decide)) fun Wx0 HG => ?_
  clear HF; have HF := HG; clear HG
  generalize w.heap.size + 1 = gx1 at *
  refine wp_seq ?_
  have hn6 : ¬ 6 < (n : Int) := by omega
  refine kS fun K hK => ?_
  refine sq 3 [(true, 0), (true, 1), (true, 2)] fun T hT => ?_
  iterate 3 refine tk ?_
  refine nlS hT HF fun vw1 HG => ?_
  clear hT T HF
  go_wp2
  refine hK.out _ _ ?_; clear hK K
  show Code.wp _ _ _ _ _
  have HF := HG; clear HG
  clear hn6
  refine wp_cond_false (by rfl) ?_
  refine wp_skip ?_
  show Code.wp _ _ _ _ _
  have HZ1 : Hid (qv (n1) (d1) = x0) := Lib.hid (HX0.out)
  have su1 : sz (x0) ≤ 4 := by have e := HZ1.out; first | omega | (rw [← e]; exact sz_qv (n1) (d1) om om om om)
  have HZ2 : Hid (qabs (x0) = a) := Lib.hid (HX1.out)
  have su2 : sz (a) ≤ 4 := by have e := HZ2.out; first | omega | (rw [← e]; rw [sz_qabs]; omega)
  have HZ3 : Hid (qv (n2) (d2) = y0) := Lib.hid (HY0.out)
  have su3 : sz (y0) ≤ 4 := by have e := HZ3.out; first | omega | (rw [← e]; exact sz_qv (n2) (d2) om om om om)
  have HZ4 : Hid (qabs (y0) = b) := Lib.hid (HY1.out)
  have su4 : sz (b) ≤ 4 := by have e := HZ4.out; first | omega | (rw [← e]; rw [sz_qabs]; omega)
  have lx0 := HF.out.c 0 rfl
  have lx1 := HF.out.c 1 rfl
  refine kS fun K hK => ?_
  refine wp_region_plan 8 [6, 7] [] (fun i => if i = 6 then 7 else 8) (fun i => if i = 6 then .cells #[.int .u64 0, .string ⟨#[]⟩, .bool false, .int .u64 0, .string ⟨#[]⟩] 36 else .cells #[.int .u64 0, .string ⟨#[]⟩, .bool false, .int .u64 0, .string ⟨#[]⟩] 36) [(true, 0), (true, 3), (true, 1), (true, 2), (true, 4), (true, 5)] (by kernel_rfl) (by kernel_rfl) (by intro i hi; simp only [List.mem_cons, List.not_mem_nil, or_false] at hi; rcases hi with rfl | rfl <;> exact ⟨_, rfl, rfl, rfl, by simp, fun ρ w => by kernel_rfl⟩) (fun i hi => by cases hi) (fun _ _ _ _ _ h => h) (fun T hT => ?_)
  iterate 2 refine tk ?_
  refine ck Tryz.call24 (fun w' hw => qv_any (n1) (d1) (x0) _ HZ1.out om om om om) ?_
  refine ck Tryz.call31 (fun w' hw => fabs_any (x0) (a) _ HZ2.out) ?_
  refine ck Tryz.call24 (fun w' hw => qv_any (n2) (d2) (y0) _ HZ3.out om om om om) ?_
  refine ck Tryz.call31 (fun w' hw => fabs_any (y0) (b) _ HZ4.out) ?_
  refine wpPlan_nil (hT.out _ _ ?_)
  intro G vw2 hg hf
  simp only [puts, Act.put, lA, lB, lC, lD, lE, ↓reduceIte, Nat.reduceEqDiff]
  have HG := Lib.hid (HF.out.fr hg hf (zs := [(#[.int .u64 0, .string ⟨#[]⟩, .bool false, .int .u64 0, .string ⟨#[]⟩], 36), (#[.int .u64 0, .string ⟨#[]⟩, .bool false, .int .u64 0, .string ⟨#[]⟩], 36)]) rfl (by decide) (by decide))
  simp only [List.zip_cons_cons, List.zip_nil_right, List.map_cons, List.map_nil, lF, lG] at HG
  clear hT T HF hg hf lx0 lx1
  generalize G 6 = gx3 at *
  generalize G 7 = gx4 at *
  have lx3 := HG.out.c 2 rfl; have fx3 := HG.out.f 2 rfl
  have lx4 := HG.out.c 3 rfl; have fx4 := HG.out.f 3 rfl
  have r0 := Gr.refl vw2
  obtain ⟨d3_4, d4_3⟩ := HG.out.ne 2 3 rfl rfl (by decide)
  go_wp2
  refine hK.out _ _ ?_; clear hK K
  show Code.wp _ _ _ _ _
  clear r0 lx3 fx3 lx4 fx4 d3_4 d4_3
  refine fH (((((((((HG.out).put2 2 0 rfl).put2 2 2 rfl).put 2 4 _ rfl).put2 3 0 rfl).put2 3 2 rfl).put 3 4 _ rfl).er 1).er 0) fun Wx3 HF => ?_
  clear HG
  refine kS fun K hK => ?_
  refine wp_region_lit ?_
  go_wp2
  refine hK.out _ _ ?_; clear hK K
  show Code.wp _ _ _ _ _
  refine fH (HF.out) fun Wx4 HG => ?_
  clear HF; have HF := HG; clear HG
  refine wp_seq ?_
  refine kS fun K hK => ?_
  refine wp_region_lit ?_
  go_wp2
  refine hK.out _ _ ?_; clear hK K
  show Code.wp _ _ _ _ _
  refine fH (HF.out) fun Wx5 HG => ?_
  clear HF; have HF := HG; clear HG
  refine wp_block ?_
  go_loopg [9, 10] n (fun kk u iv wr => ∃ k : Nat, iv = .int .i64 (k : Int) ∧ k + kk = n ∧ (k = 0 → u = .slice none 0 0) ∧ Hid (HP w wr [Sum.inl (gx3, 36, #[.int .u64 ((lo (Int.natAbs ((a).num)) : Nat) : Int), .string (bg (Int.natAbs ((a).num))), .bool (decide (((a).num) < 0)), .int .u64 ((lo ((a).den - 1) : Nat) : Int), .string (bg ((a).den - 1))]), Sum.inl (gx4, 36, #[.int .u64 ((lo (Int.natAbs ((b).num)) : Nat) : Int), .string (bg (Int.natAbs ((b).num))), .bool (decide (((b).num) < 0)), .int .u64 ((lo ((b).den - 1) : Nat) : Int), .string (bg ((b).den - 1))])]) ∧ Hid (wr.ownsRow w.heap.size 36 5 u k (fcs f k)) ∧ Hid (Apart [Sum.inl (gx3, 36, #[.int .u64 ((lo (Int.natAbs ((a).num)) : Nat) : Int), .string (bg (Int.natAbs ((a).num))), .bool (decide (((a).num) < 0)), .int .u64 ((lo ((a).den - 1) : Nat) : Int), .string (bg ((a).den - 1))]), Sum.inl (gx4, 36, #[.int .u64 ((lo (Int.natAbs ((b).num)) : Nat) : Int), .string (bg (Int.natAbs ((b).num))), .bool (decide (((b).num) < 0)), .int .u64 ((lo ((b).den - 1) : Nat) : Int), .string (bg ((b).den - 1))])] u))
  case atStart => exact ⟨0, rfl, by omega, fun _ => rfl, HF, Lib.hid (World.ownsRow_nil _ _ _ _), Lib.hid (fun i x hx e => by cases e)⟩
  case round =>
    rename_i J_ K_ hj1_ hj0_
    clear HF
    obtain ⟨k, rfl, hkn, hu0, HF, HW, HAP⟩ := hrel
    rcases gk with _ | kk
    · obtain rfl : n = k := by omega
      have HFS : Hid (Fs wr u9 n f) := Lib.hid (by
        rcases Nat.eq_zero_or_pos n with h | h
        · rw [hu0 h, h]; exact fs0 _ _
        · obtain ⟨gR, cur, h1, h2⟩ := own_hp HF.out HW.out HAP.out h (by decide)
          exact rowv_fs h2 ((h1.bx 2 rfl).gr (Gr.refl _)))
      have BX3 := Lib.hid (HF.out.bx 0 rfl)
      have BX4 := Lib.hid (HF.out.bx 1 rfl)
      have HBW := Lib.hid HF.out.1
      replace HT := Lib.hid (HT.out.gr HBW.out)
      clear HF HW HAP hu0 hkn
      have HF := Lib.hid (hp0 wr)
      refine wp_seq ?_
      have hlt9 : ¬ (n : Int) < (n : Int) := by omega
      refine kS fun K hK => ?_
      refine sq 4 [(true, 0), (true, 1), (true, 2), (true, 3)] fun T hT => ?_
      iterate 4 refine tk ?_
      refine nlS hT HF fun vw3 HG => ?_
      clear hT T HF
      go_wp2
      refine hK.out _ _ ?_; clear hK K
      show Code.wp _ _ _ _ _
      have HF := HG; clear HG
      clear hlt9
      refine wp_cond_false (by rfl) ?_
      refine wp_exit ?_
      show Code.wp _ _ _ _ _
      by_cases hneg : su < 0
      · have HNG := Lib.hid hneg
        clear hneg
        have HB := HPb HF
        refine kS fun K hK => ?_
        refine sq 2 [(true, 0), (true, 1)] fun T hT => ?_
        refine tk ?_
        refine ck Tryz.call40 (fun w' hw => fsum_list n f _ su _ (HFS.out.gr (Gr.trans HB.out hw)) (by omega) HSa.out HSU.out) ?_
        refine nlS hT HF fun vw4 HG => ?_
        clear hT T HF HB
        go_wp2
        refine hK.out _ _ ?_; clear hK K
        show Code.wp _ _ _ _ _
        refine fH ((HG.out).al (b := vw4.heap.size) (by first | rfl | simp) (by decide)) fun Wx9 HF => ?_
        clear HG
        generalize vw4.heap.size = gx5 at *
        have HB := HPb HF
        have lx3 := (BX3.out.gr HF.out.1).cells
        have lx4 := (BX4.out.gr HF.out.1).cells
        refine kS fun K hK => ?_
        refine sq 9 [(true, 0), (true, 1), (true, 2), (true, 3), (true, 4), (true, 5), (true, 6), (true, 7), (true, 8)] fun T hT => ?_
        iterate 3 refine tk ?_
        refine ck Tryz.call34 (fun w' hw => rorder_s (a) (b) su _ n f _ (Lib.hid (HFS.out.gr (Gr.trans HB.out hw))) (by omega) HSa HSU (by omega) om om HA0 HB0 (HNG)) ?_
        iterate 5 refine tk ?_
        refine nlS hT HF fun vw5 HG => ?_
        clear hT T HF lx3 lx4 HB
        go_wp2
        refine hK.out _ _ ?_; clear hK K
        show Code.wp _ _ _ _ _
        have HF := HG; clear HG
        refine wp_seq ?_
        have lx5 := HF.out.c 0 rfl
        refine kS fun K hK => ?_
        refine sq 3 [(true, 0), (true, 1), (true, 2)] fun T hT => ?_
        refine tk ?_
        refine ck Tryz.call35 (fun w' hw => fsign_any (su) (-1) _ (by have e9 : (su) < (0 : Rat) := (by first | exact ok | exact HNG.out | exact HA0.out | exact HB0.out); exact sgQ_neg e9)) ?_
        refine tk ?_
        refine nlS hT HF fun vw6 HG => ?_
        clear hT T HF lx5
        go_wp2
        refine hK.out _ _ ?_; clear hK K
        show Code.wp _ _ _ _ _
        have HF := HG; clear HG
        refine wp_cond_true (by rfl) ?_
        have HB := HPb HF
        refine kS fun K hK => ?_
        refine sq 10 [(true, 0), (true, 1), (true, 2), (true, 3), (true, 4), (true, 5), (true, 6), (true, 7), (true, 8), (true, 9)] fun T hT => ?_
        iterate 7 refine tk ?_
        refine ck Tryz.call22 (fun w' hw => works5_any _ (Lib.hid (HT.out.gr (Gr.trans HB.out hw)))) ?_
        iterate 2 refine tk ?_
        refine nlS hT HF fun vw7 HG => ?_
        clear hT T HF HB
        go_wp2
        refine hK.out _ _ ?_; clear hK K
        show Code.wp _ _ _ _ _
        have HF := HG; clear HG
        refine wp_ret ?_
        try simp only [Exit.then, Exit.inBlock]
        exact bodyPost_ret (v := .bool true) (by simp [results, Tryz.results8, go_sem]) rfl ⟨rfl, HBW.out.trans (HF.out.1.mono HBW.out.size)⟩
      · have HS0 : Hid (0 ≤ su) := Lib.hid (Rat.not_lt.1 hneg)
        clear hneg
        obtain ⟨c, HOV⟩ : ∃ c, Hid (ordv a b su = c) := ⟨_, Lib.hid rfl⟩
        obtain ⟨la, HLA⟩ : ∃ z, Hid (rlo a 80 = z) := ⟨_, Lib.hid rfl⟩
        obtain ⟨ha, HHA⟩ : ∃ z, Hid (rhi a 80 = z) := ⟨_, Lib.hid rfl⟩
        obtain ⟨lb, HLB⟩ : ∃ z, Hid (rlo b 80 = z) := ⟨_, Lib.hid rfl⟩
        obtain ⟨hb, HHB⟩ : ∃ z, Hid (rhi b 80 = z) := ⟨_, Lib.hid rfl⟩
        obtain ⟨ls, HLS⟩ : ∃ z, Hid (rlo su 80 = z) := ⟨_, Lib.hid rfl⟩
        obtain ⟨hs, HHS⟩ : ∃ z, Hid (rhi su 80 = z) := ⟨_, Lib.hid rfl⟩
        obtain ⟨lw, HLW⟩ : ∃ z, Hid (la + lb = z) := ⟨_, Lib.hid rfl⟩
        obtain ⟨hg, HHG⟩ : ∃ z, Hid (ha + hb = z) := ⟨_, Lib.hid rfl⟩
        obtain ⟨d, HD⟩ : ∃ z, Hid (ordv a b (a + b) = z) := ⟨_, Lib.hid rfl⟩
        obtain ⟨gg, HGG⟩ : ∃ z, Hid (sgQ (a + b - su) = z) := ⟨_, Lib.hid rfl⟩
        have hd0 : ¬ d < 0 := by rw [← HD.out]; have := (ordv_self HA0.out HB0.out).1; omega
        have HDZ : Hid (d = 0 ↔ a = 0 ∨ b = 0) := Lib.hid (by rw [← HD.out]; exact (ordv_self HA0.out HB0.out).2)
        have HSQ : Hid (ordv (a * a) (b * b) (su * su) = gg) := Lib.hid (by rw [← HGG.out]; exact ordv_sq HA0.out HB0.out HS0.out)
        have nla : 0 ≤ la := by rw [← HLA.out]; exact rlo_nn _ _
        have nlb : 0 ≤ lb := by rw [← HLB.out]; exact rlo_nn _ _
        have nha : 0 ≤ ha := by rw [← HHA.out]; exact rhi_nn _ _
        have nhb : 0 ≤ hb := by rw [← HHB.out]; exact rhi_nn _ _
        have nls : 0 ≤ ls := by rw [← HLS.out]; exact rlo_nn _ _
        have nhs : 0 ≤ hs := by rw [← HHS.out]; exact rhi_nn _ _
        have qla : la * la ≤ a := by rw [← HLA.out]; exact rlo_le HA0.out _
        have qlb : lb * lb ≤ b := by rw [← HLB.out]; exact rlo_le HB0.out _
        have qls : ls * ls ≤ su := by rw [← HLS.out]; exact rlo_le HS0.out _
        have qha : a ≤ ha * ha := by rw [← HHA.out]; exact rhi_ge HA0.out _
        have qhb : b ≤ hb * hb := by rw [← HHB.out]; exact rhi_ge HB0.out _
        have qhs : su ≤ hs * hs := by rw [← HHS.out]; exact rhi_ge HS0.out _
        have hcc : c = -1 ∨ c = 0 ∨ c = 1 := by
          rw [← HOV.out]; unfold ordv; split
          · exact .inr (.inr rfl)
          · rcases sgQ_cases ((4 : Rat) * (a * b) - (su - (a + b)) * (su - (a + b))) with ⟨_, e⟩ | ⟨_, e⟩ | ⟨_, e⟩ <;> rw [e] <;> simp
        rcases hcc with rfl | rfl | rfl
        · have HLT : Hid (lw - hs < 0) := Lib.hid (by have := ordv_lt HA0.out HB0.out nla nlb nhs qla qlb qhs HOV.out; rw [← HLW.out]; grind)
          clear nla nlb nha nhb nls nhs qla qlb qls qha qhb qhs
          have HB := HPb HF
          refine kS fun K hK => ?_
          refine sq 2 [(true, 0), (true, 1)] fun T hT => ?_
          refine tk ?_
          refine ck Tryz.call40 (fun w' hw => fsum_list n f _ su _ (HFS.out.gr (Gr.trans HB.out hw)) (by omega) HSa.out HSU.out) ?_
          refine nlS hT HF fun vw4 HG => ?_
          clear hT T HF HB
          go_wp2
          refine hK.out _ _ ?_; clear hK K
          show Code.wp _ _ _ _ _
          refine fH ((HG.out).al (b := vw4.heap.size) (by first | rfl | simp) (by decide)) fun Wx9 HF => ?_
          clear HG
          generalize vw4.heap.size = gx5 at *
          have HB := HPb HF
          have lx3 := (BX3.out.gr HF.out.1).cells
          have lx4 := (BX4.out.gr HF.out.1).cells
          refine kS fun K hK => ?_
          refine sq 9 [(true, 0), (true, 1), (true, 2), (true, 3), (true, 4), (true, 5), (true, 6), (true, 7), (true, 8)] fun T hT => ?_
          iterate 3 refine tk ?_
          refine ck Tryz.call34 (fun w' hw => zorder (a) (b) su _ n f (-1) _ (Lib.hid (HFS.out.gr (Gr.trans HB.out hw))) (by omega) HSa HSU (by omega) om om (HA0.out) (HB0.out) (HS0.out) (HOV.out)) ?_
          iterate 5 refine tk ?_
          refine nlS hT HF fun vw5 HG => ?_
          clear hT T HF lx3 lx4 HB
          go_wp2
          refine hK.out _ _ ?_; clear hK K
          show Code.wp _ _ _ _ _
          have HF := HG; clear HG
          refine wp_seq ?_
          obtain ⟨t5, HT5⟩ : ∃ z, Hid (sgQ (su) = z) := ⟨_, Lib.hid rfl⟩
          have ht5 : 0 ≤ t5 := by rw [← HT5.out]; exact sgQ_nn0 HS0.out
          have hd1 : ¬ (t5 < 0) := by first | exact ok | exact HS0.out | exact HLT.out | exact HLW.out | exact HHG.out | exact Rat.zero_add _ | exact HA0.out | exact HB0.out
          have lx5 := HF.out.c 0 rfl
          refine kS fun K hK => ?_
          refine sq 3 [(true, 0), (true, 1), (true, 2)] fun T hT => ?_
          refine tk ?_
          refine ck Tryz.call35 (fun w' hw => fsign_any (su) (t5) _ HT5.out) ?_
          refine tk ?_
          refine nlS hT HF fun vw6 HG => ?_
          clear hT T HF lx5
          go_wp2
          refine hK.out _ _ ?_; clear hK K
          show Code.wp _ _ _ _ _
          have HF := HG; clear HG
          clear ht5 hd1
          refine wp_cond_false (by rfl) ?_
          refine wp_skip ?_
          show Code.wp _ _ _ _ _
          refine kS fun K hK => ?_
          refine sq 2 [(true, 0), (true, 1)] fun T hT => ?_
          iterate 2 refine tk ?_
          refine nlS hT HF fun vw7 HG => ?_
          clear hT T HF
          go_wp2
          refine hK.out _ _ ?_; clear hK K
          show Code.wp _ _ _ _ _
          refine fH (((HG.out).al (b := vw7.heap.size) (by first | rfl | simp) (by decide)).al (b := vw7.heap.size + 1) (by first | rfl | simp) (by decide)) fun Wx13 HF => ?_
          clear HG
          generalize vw7.heap.size + 1 = gx7 at *
          generalize vw7.heap.size = gx6 at *
          refine wp_seq ?_
          have lx3 := (BX3.out.gr HF.out.1).cells
          have lx4 := (BX4.out.gr HF.out.1).cells
          refine kS fun K hK => ?_
          have HG0 : Hid (Gr Wx13 Wx13) := Lib.hid (Gr.refl _)
          refine sq 5 [(true, 0), (true, 1), (false, 2), (true, 3), (true, 4)] fun T hT => ?_
          iterate 2 refine tk ?_
          refine wpPlan_slice (cs := #[.int .u64 ((lo (Int.natAbs ((a).num)) : Nat) : Int), .string (bg (Int.natAbs ((a).num))), .bool (decide (((a).num) < 0)), .int .u64 ((lo ((a).den - 1) : Nat) : Int), .string (bg ((a).den - 1)), .int .u64 ((lo (Int.natAbs ((b).num)) : Nat) : Int), .string (bg (Int.natAbs ((b).num))), .bool (decide (((b).num) < 0)), .int .u64 ((lo ((b).den - 1) : Nat) : Int), .string (bg ((b).den - 1))]) (E := 36) (n := 2) rfl (by rfl) (fun w' hw => ?_) (fun gx8 vv8 hg0 yx8 bx8 => ?_)
          · go_simp
          have YX8 := Lib.hid (Nat.le_trans HG0.out.size yx8)
          clear yx8
          replace HG0 := Lib.hid (HG0.out.trans hg0)
          have HGS := Lib.hid hg0; clear hg0
          clear HGS
          have BX8 := Lib.hid bx8; clear bx8
          clear lx3; have lx3 := fun w' (h : Gr _ w') => (BX3.out.gr HF.out.1).cells w' (HG0.out.trans h)
          clear lx4; have lx4 := fun w' (h : Gr _ w') => (BX4.out.gr HF.out.1).cells w' (HG0.out.trans h)
          simp only [Act.put, lA, lB, lC]
          iterate 2 refine tk ?_
          refine wpPlan_nil (hT.out _ _ ?_)
          intro vw8 hg
          simp only [puts, Act.put, lA, lB, lC, lD, lE, ↓reduceIte, Nat.reduceEqDiff]
          have HG := Lib.hid (HF.out.grS (HG0.out.trans hg) YX8.out (BX8.out.gr hg) (by decide))
          simp only [List.zip_cons_cons, List.zip_nil_right, List.map_cons, List.map_nil, lF, lG] at HG
          clear hT T HF hg HG0 BX8 lx3 lx4
          clear YX8
          go_wp2
          refine hK.out _ _ ?_; clear hK K
          show Code.wp _ _ _ _ _
          have HF := HG; clear HG
          refine wp_block ?_
          refine wp_loop_rounds 4 ?_
          rw [rounds_succ]
          refine kS fun K hK => ?_
          refine sq 1 [(true, 0)] fun T hT => ?_
          refine tk ?_
          refine nlS hT HF fun vw9 HG => ?_
          clear hT T HF
          go_wp2
          refine hK.out _ _ ?_; clear hK K
          show Code.wp _ _ _ _ _
          have HF := HG; clear HG
          refine wp_seq ?_
          refine wp_cond_true (by rfl) ?_
          refine wp_skip ?_
          show Code.wp _ _ _ _ _
          refine wp_seq ?_
          refine wp_block ?_
          have lx8 := HF.out.c 3 rfl
          refine kS fun K hK => ?_
          refine sq 2 [(true, 0), (true, 1)] fun T hT => ?_
          iterate 2 refine tk ?_
          refine nlS hT HF fun vw10 HG => ?_
          clear hT T HF lx8
          go_wp2
          refine hK.out _ _ ?_; clear hK K
          show Code.wp _ _ _ _ _
          refine fH ((HG.out).al (b := vw10.heap.size) (by first | rfl | simp) (by decide)) fun Wx16 HF => ?_
          clear HG
          generalize vw10.heap.size = gx9 at *
          have HZ6 : Hid (rlo (a) 80 = la) := Lib.hid (HLA.out)
          have su6 : sz (la) ≤ 14 := by have e := HZ6.out; first | omega | (rw [← e]; exact Nat.le_trans (sz_rlo (by omega) om) (by omega))
          have lx9 := HF.out.c 4 rfl
          refine kS fun K hK => ?_
          refine sq 5 [(true, 0), (true, 1), (true, 2), (true, 3), (true, 4)] fun T hT => ?_
          refine tk ?_
          refine ck Tryz.call23 (fun w' hw => rBelow_ok (a) (la) 80 _ (Lib.hid (by first | exact ok | exact HS0.out | exact HLT.out | exact HLW.out | exact HHG.out | exact Rat.zero_add _ | exact HA0.out | exact HB0.out)) (Lib.hid HZ6.out) (by omega) om) ?_
          iterate 3 refine tk ?_
          refine nlS hT HF fun vw11 HG => ?_
          clear hT T HF lx9
          go_wp2
          refine hK.out _ _ ?_; clear hK K
          show Code.wp _ _ _ _ _
          refine fH ((HG.out).al (b := vw11.heap.size) (by first | rfl | simp) (by decide)) fun Wx17 HF => ?_
          clear HG
          generalize vw11.heap.size = gx10 at *
          have HZ7 : Hid (rhi (a) 80 = ha) := Lib.hid (HHA.out)
          have su7 : sz (ha) ≤ 14 := by have e := HZ7.out; first | omega | (rw [← e]; exact Nat.le_trans (sz_rhi (by omega) om) (by omega))
          have lx9 := HF.out.c 4 rfl
          refine kS fun K hK => ?_
          refine sq 5 [(true, 0), (true, 1), (true, 2), (true, 3), (true, 4)] fun T hT => ?_
          refine tk ?_
          refine ck Tryz.call25 (fun w' hw => rAbove_ok (a) (ha) 80 _ (Lib.hid (by first | exact ok | exact HS0.out | exact HLT.out | exact HLW.out | exact HHG.out | exact Rat.zero_add _ | exact HA0.out | exact HB0.out)) (Lib.hid HZ7.out) (by omega) om) ?_
          iterate 3 refine tk ?_
          refine nlS hT HF fun vw12 HG => ?_
          clear hT T HF lx9
          go_wp2
          refine hK.out _ _ ?_; clear hK K
          show Code.wp _ _ _ _ _
          refine fH ((HG.out).al (b := vw12.heap.size) (by first | rfl | simp) (by decide)) fun Wx18 HF => ?_
          clear HG
          generalize vw12.heap.size = gx11 at *
          have HZ8 : Hid ((0 : Rat) + (la) = la) := Lib.hid (by first | exact ok | exact HS0.out | exact HLT.out | exact HLW.out | exact HHG.out | exact Rat.zero_add _ | exact HA0.out | exact HB0.out)
          have su8 : sz (la) ≤ 16 := by have e := HZ8.out; first | omega | (rw [← e]; have := sz_add (0 : Rat) (la); omega)
          have lx6 := HF.out.c 1 rfl
          have lx10 := HF.out.c 5 rfl
          refine kS fun K hK => ?_
          refine sq 3 [(true, 0), (true, 1), (true, 2)] fun T hT => ?_
          iterate 2 refine tk ?_
          refine ck Tryz.call30 (fun w' hw => fadd_any (0 : Rat) (la) (la) _ HZ8.out om om) ?_
          refine nlS hT HF fun vw13 HG => ?_
          clear hT T HF lx6 lx10
          have lx6 := HG.out.c 1 rfl; have fx6 := HG.out.f 1 rfl
          have r0 := Gr.refl vw13
          go_wp2
          refine hK.out _ _ ?_; clear hK K
          show Code.wp _ _ _ _ _
          clear r0 lx6 fx6
          refine fH ((((HG.out).put2 1 0 rfl).put2 1 2 rfl).put 1 4 _ rfl) fun Wx19 HF => ?_
          clear HG
          have HZ9 : Hid ((0 : Rat) + (ha) = ha) := Lib.hid (by first | exact ok | exact HS0.out | exact HLT.out | exact HLW.out | exact HHG.out | exact Rat.zero_add _ | exact HA0.out | exact HB0.out)
          have su9 : sz (ha) ≤ 16 := by have e := HZ9.out; first | omega | (rw [← e]; have := sz_add (0 : Rat) (ha); omega)
          have lx7 := HF.out.c 2 rfl
          have lx11 := HF.out.c 6 rfl
          refine kL fun K hK => ?_
          refine sq 3 [(true, 0), (true, 1), (true, 2)] fun T hT => ?_
          iterate 2 refine tk ?_
          refine ck Tryz.call30 (fun w' hw => fadd_any (0 : Rat) (ha) (ha) _ HZ9.out om om) ?_
          refine nlS hT HF fun vw14 HG => ?_
          clear hT T HF lx7 lx11
          have lx7 := HG.out.c 2 rfl; have fx7 := HG.out.f 2 rfl
          have r0 := Gr.refl vw14
          go_wp2
          refine hK.out _ _ ?_; clear hK K
          show Code.wp _ _ _ _ _
          clear r0 lx7 fx7
          refine fH ((((HG.out).put2 2 0 rfl).put2 2 2 rfl).put 2 4 _ rfl) fun Wx20 HF => ?_
          clear HG
          refine kL fun K hK => ?_
          refine sq 2 [(true, 0), (true, 1)] fun T hT => ?_
          iterate 2 refine tk ?_
          refine nlS hT HF fun vw15 HG => ?_
          clear hT T HF
          go_wp2
          refine hK.out _ _ ?_; clear hK K
          show Code.rounds _ _ _ _ _ _
          rw [rounds_succ]
          have HF := HG; clear HG
          refine kS fun K hK => ?_
          refine sq 1 [(true, 0)] fun T hT => ?_
          refine tk ?_
          refine nlS hT HF fun vw16 HG => ?_
          clear hT T HF
          go_wp2
          refine hK.out _ _ ?_; clear hK K
          show Code.wp _ _ _ _ _
          have HF := HG; clear HG
          refine wp_seq ?_
          refine wp_cond_true (by rfl) ?_
          refine wp_skip ?_
          show Code.wp _ _ _ _ _
          refine wp_seq ?_
          refine wp_block ?_
          have lx8 := HF.out.c 3 rfl
          refine kS fun K hK => ?_
          refine sq 2 [(true, 0), (true, 1)] fun T hT => ?_
          iterate 2 refine tk ?_
          refine nlS hT HF fun vw17 HG => ?_
          clear hT T HF lx8
          go_wp2
          refine hK.out _ _ ?_; clear hK K
          show Code.wp _ _ _ _ _
          refine fH (((HG.out).al (b := vw17.heap.size) (by first | rfl | simp) (by decide)).er 4) fun Wx16 HF => ?_
          clear HG
          generalize vw17.heap.size = gx12 at *
          have HZ10 : Hid (rlo (b) 80 = lb) := Lib.hid (HLB.out)
          have su10 : sz (lb) ≤ 14 := by have e := HZ10.out; first | omega | (rw [← e]; exact Nat.le_trans (sz_rlo (by omega) om) (by omega))
          have lx12 := HF.out.c 6 rfl
          refine kS fun K hK => ?_
          refine sq 5 [(true, 0), (true, 1), (true, 2), (true, 3), (true, 4)] fun T hT => ?_
          refine tk ?_
          refine ck Tryz.call23 (fun w' hw => rBelow_ok (b) (lb) 80 _ (Lib.hid (by first | exact ok | exact HS0.out | exact HLT.out | exact HLW.out | exact HHG.out | exact Rat.zero_add _ | exact HA0.out | exact HB0.out)) (Lib.hid HZ10.out) (by omega) om) ?_
          iterate 3 refine tk ?_
          refine nlS hT HF fun vw18 HG => ?_
          clear hT T HF lx12
          go_wp2
          refine hK.out _ _ ?_; clear hK K
          show Code.wp _ _ _ _ _
          refine fH (((HG.out).al (b := vw18.heap.size) (by first | rfl | simp) (by decide)).er 4) fun Wx17 HF => ?_
          clear HG
          generalize vw18.heap.size = gx13 at *
          have HB := HPb HF
          have HZ11 : Hid (rhi (b) 80 = hb) := Lib.hid (HHB.out)
          have su11 : sz (hb) ≤ 14 := by have e := HZ11.out; first | omega | (rw [← e]; exact Nat.le_trans (sz_rhi (by omega) om) (by omega))
          have lx12 := HF.out.c 5 rfl
          refine kS fun K hK => ?_
          refine sq 5 [(true, 0), (true, 1), (true, 2), (true, 3), (true, 4)] fun T hT => ?_
          refine tk ?_
          refine ck Tryz.call25 (fun w' hw => rAbove_ok (b) (hb) 80 _ (Lib.hid (by first | exact ok | exact HS0.out | exact HLT.out | exact HLW.out | exact HHG.out | exact Rat.zero_add _ | exact HA0.out | exact HB0.out)) (Lib.hid HZ11.out) (by omega) om) ?_
          iterate 3 refine tk ?_
          refine nlS hT HF fun vw19 HG => ?_
          clear hT T HF lx12 HB
          go_wp2
          refine hK.out _ _ ?_; clear hK K
          show Code.wp _ _ _ _ _
          refine fH (((HG.out).al (b := vw19.heap.size) (by first | rfl | simp) (by decide)).er 4) fun Wx18 HF => ?_
          clear HG
          generalize vw19.heap.size = gx14 at *
          have HZ12 : Hid ((la) + (lb) = lw) := Lib.hid (by first | exact ok | exact HS0.out | exact HLT.out | exact HLW.out | exact HHG.out | exact Rat.zero_add _ | exact HA0.out | exact HB0.out)
          have su12 : sz (lw) ≤ 31 := by have e := HZ12.out; first | omega | (rw [← e]; have := sz_add (la) (lb); omega)
          have lx6 := HF.out.c 1 rfl
          have lx13 := HF.out.c 5 rfl
          refine kS fun K hK => ?_
          refine sq 3 [(true, 0), (true, 1), (true, 2)] fun T hT => ?_
          iterate 2 refine tk ?_
          refine ck Tryz.call30 (fun w' hw => fadd_any (la) (lb) (lw) _ HZ12.out om om) ?_
          refine nlS hT HF fun vw20 HG => ?_
          clear hT T HF lx6 lx13
          have lx6 := HG.out.c 1 rfl; have fx6 := HG.out.f 1 rfl
          have r0 := Gr.refl vw20
          go_wp2
          refine hK.out _ _ ?_; clear hK K
          show Code.wp _ _ _ _ _
          clear r0 lx6 fx6
          refine fH ((((HG.out).put2 1 0 rfl).put2 1 2 rfl).put 1 4 _ rfl) fun Wx19 HF => ?_
          clear HG
          have HZ13 : Hid ((ha) + (hb) = hg) := Lib.hid (by first | exact ok | exact HS0.out | exact HLT.out | exact HLW.out | exact HHG.out | exact Rat.zero_add _ | exact HA0.out | exact HB0.out)
          have su13 : sz (hg) ≤ 31 := by have e := HZ13.out; first | omega | (rw [← e]; have := sz_add (ha) (hb); omega)
          have lx7 := HF.out.c 2 rfl
          have lx14 := HF.out.c 6 rfl
          refine kL fun K hK => ?_
          refine sq 3 [(true, 0), (true, 1), (true, 2)] fun T hT => ?_
          iterate 2 refine tk ?_
          refine ck Tryz.call30 (fun w' hw => fadd_any (ha) (hb) (hg) _ HZ13.out om om) ?_
          refine nlS hT HF fun vw21 HG => ?_
          clear hT T HF lx7 lx14
          have lx7 := HG.out.c 2 rfl; have fx7 := HG.out.f 2 rfl
          have r0 := Gr.refl vw21
          go_wp2
          refine hK.out _ _ ?_; clear hK K
          show Code.wp _ _ _ _ _
          clear r0 lx7 fx7
          refine fH ((((HG.out).put2 2 0 rfl).put2 2 2 rfl).put 2 4 _ rfl) fun Wx20 HF => ?_
          clear HG
          refine kL fun K hK => ?_
          refine sq 2 [(true, 0), (true, 1)] fun T hT => ?_
          iterate 2 refine tk ?_
          refine nlS hT HF fun vw22 HG => ?_
          clear hT T HF
          go_wp2
          refine hK.out _ _ ?_; clear hK K
          show Code.rounds _ _ _ _ _ _
          rw [rounds_succ]
          have HF := HG; clear HG
          refine kS fun K hK => ?_
          refine sq 1 [(true, 0)] fun T hT => ?_
          refine tk ?_
          refine nlS hT HF fun vw23 HG => ?_
          clear hT T HF
          go_wp2
          refine hK.out _ _ ?_; clear hK K
          show Code.wp _ _ _ _ _
          have HF := HG; clear HG
          refine wp_seq ?_
          refine wp_cond_false (by rfl) ?_
          refine wp_exit ?_
          show Code.wp _ _ _ _ _
          have HZ14 : Hid (rlo (su) 80 = ls) := Lib.hid (HLS.out)
          have su14 : sz (ls) ≤ 111 := by have e := HZ14.out; first | omega | (rw [← e]; exact Nat.le_trans (sz_rlo (by omega) om) (by omega))
          have lx5 := HF.out.c 0 rfl
          refine kS fun K hK => ?_
          refine sq 5 [(true, 0), (true, 1), (true, 2), (true, 3), (true, 4)] fun T hT => ?_
          refine tk ?_
          refine ck Tryz.call23 (fun w' hw => rBelow_ok (su) (ls) 80 _ (Lib.hid (by first | exact ok | exact HS0.out | exact HLT.out | exact HLW.out | exact HHG.out | exact Rat.zero_add _ | exact HA0.out | exact HB0.out)) (Lib.hid HZ14.out) (by omega) om) ?_
          iterate 3 refine tk ?_
          refine nlS hT HF fun vw24 HG => ?_
          clear hT T HF lx5
          go_wp2
          refine hK.out _ _ ?_; clear hK K
          show Code.wp _ _ _ _ _
          refine fH ((((((HG.out).al (b := vw24.heap.size) (by first | rfl | simp) (by decide)).er 6).er 5).er 4).er 3) fun Wx22 HF => ?_
          clear HG
          generalize vw24.heap.size = gx15 at *
          have HZ15 : Hid (rhi (su) 80 = hs) := Lib.hid (HHS.out)
          have su15 : sz (hs) ≤ 111 := by have e := HZ15.out; first | omega | (rw [← e]; exact Nat.le_trans (sz_rhi (by omega) om) (by omega))
          have lx5 := HF.out.c 0 rfl
          refine kS fun K hK => ?_
          refine sq 5 [(true, 0), (true, 1), (true, 2), (true, 3), (true, 4)] fun T hT => ?_
          refine tk ?_
          refine ck Tryz.call25 (fun w' hw => rAbove_ok (su) (hs) 80 _ (Lib.hid (by first | exact ok | exact HS0.out | exact HLT.out | exact HLW.out | exact HHG.out | exact Rat.zero_add _ | exact HA0.out | exact HB0.out)) (Lib.hid HZ15.out) (by omega) om) ?_
          iterate 3 refine tk ?_
          refine nlS hT HF fun vw25 HG => ?_
          clear hT T HF lx5
          go_wp2
          refine hK.out _ _ ?_; clear hK K
          show Code.wp _ _ _ _ _
          refine fH ((HG.out).al (b := vw25.heap.size) (by first | rfl | simp) (by decide)) fun Wx23 HF => ?_
          clear HG
          generalize vw25.heap.size = gx16 at *
          refine wp_seq ?_
          have lx6 := HF.out.c 1 rfl
          have lx7 := HF.out.c 2 rfl
          have lx15 := HF.out.c 3 rfl
          have lx16 := HF.out.c 4 rfl
          refine kS fun K hK => ?_
          refine sq 43 [(true, 0), (true, 1), (true, 2), (true, 3), (true, 4), (true, 5), (true, 6), (true, 7), (true, 8), (true, 9), (true, 10), (true, 11), (true, 12), (true, 13), (true, 14), (true, 15), (true, 16), (true, 17), (true, 18), (true, 19), (true, 20), (true, 21), (true, 22), (true, 23), (true, 24), (true, 25), (true, 26), (true, 27), (true, 28), (true, 29), (true, 30), (true, 31), (true, 32), (true, 33), (true, 34), (true, 35), (true, 36), (true, 37), (true, 38), (true, 39), (true, 40), (true, 41), (true, 42)] fun T hT => ?_
          iterate 8 refine tk ?_
          refine ck Tryz.call38 (fun w' hw => fcmp_any (lw) (hs) (-1) _ (by have e9 : (lw) - (hs) < (0 : Rat) := (by first | exact ok | exact HS0.out | exact HLT.out | exact HLW.out | exact HHG.out | exact Rat.zero_add _ | exact HA0.out | exact HB0.out); exact sgQ_neg e9) om om) ?_
          iterate 3 refine tk ?_
          iterate 3 refine sk ?_
          iterate 6 refine tk ?_
          iterate 4 refine sk ?_
          iterate 6 refine tk ?_
          iterate 10 refine sk ?_
          iterate 2 refine tk ?_
          refine nlS hT HF fun vw26 HG => ?_
          clear hT T HF lx6 lx7 lx15 lx16
          go_wp2
          refine hK.out _ _ ?_; clear hK K
          show Code.wp _ _ _ _ _
          refine fH (((((HG.out).er 4).er 3).er 2).er 1) fun Wx24 HF => ?_
          clear HG
          refine wp_cond_false (by rfl) ?_
          refine wp_skip ?_
          show Code.wp _ _ _ _ _
          have lx3 := (BX3.out.gr HF.out.1).cells
          have lx4 := (BX4.out.gr HF.out.1).cells
          refine kS fun K hK => ?_
          have HG0 : Hid (Gr Wx24 Wx24) := Lib.hid (Gr.refl _)
          refine sq 11 [(true, 0), (true, 1), (true, 2), (true, 3), (false, 4), (true, 5), (true, 6), (true, 7), (true, 8), (true, 9), (true, 10)] fun T hT => ?_
          iterate 4 refine tk ?_
          refine wpPlan_slice (cs := #[.int .u64 ((lo (Int.natAbs ((a).num)) : Nat) : Int), .string (bg (Int.natAbs ((a).num))), .bool (decide (((a).num) < 0)), .int .u64 ((lo ((a).den - 1) : Nat) : Int), .string (bg ((a).den - 1)), .int .u64 ((lo (Int.natAbs ((b).num)) : Nat) : Int), .string (bg (Int.natAbs ((b).num))), .bool (decide (((b).num) < 0)), .int .u64 ((lo ((b).den - 1) : Nat) : Int), .string (bg ((b).den - 1))]) (E := 36) (n := 2) rfl (by rfl) (fun w' hw => ?_) (fun gx17 vv17 hg0 yx17 bx17 => ?_)
          · go_simp
          clear yx17
          replace HG0 := Lib.hid (HG0.out.trans hg0)
          have HGS := Lib.hid hg0; clear hg0
          clear HGS
          have BX17 := Lib.hid bx17; clear bx17
          clear lx3; have lx3 := fun w' (h : Gr _ w') => (BX3.out.gr HF.out.1).cells w' (HG0.out.trans h)
          clear lx4; have lx4 := fun w' (h : Gr _ w') => (BX4.out.gr HF.out.1).cells w' (HG0.out.trans h)
          simp only [Act.put, lA, lB, lC]
          refine ck Tryz.call34 (fun w' hw => zorder (a) (b) ((a) + (b)) _ 2 (f2_ (a) (b)) (d) _ (Lib.hid (fs2 BX17.out hw)) (by omega) (Lib.hid (fsz2 om om)) (Lib.hid (qsum2 _ _ _ rfl)) (by have := sz_add (a) (b); omega) om om (HA0.out) (HB0.out) (Rat.add_nonneg HA0.out HB0.out) (HD.out)) ?_
          iterate 5 refine tk ?_
          refine wpPlan_nil (hT.out _ _ ?_)
          intro vw27 hg
          simp only [puts, Act.put, lA, lB, lC, lD, lE, ↓reduceIte, Nat.reduceEqDiff]
          have HG := Lib.hid (HF.out.gr (HG0.out.trans hg))
          clear hT T HF hg HG0 BX17 lx3 lx4
          go_wp2
          refine hK.out _ _ ?_; clear hK K
          show Code.wp _ _ _ _ _
          have HF := HG; clear HG
          obtain ⟨u16, HZ16⟩ : ∃ z, Hid ((a) * (a) = z) := ⟨_, Lib.hid rfl⟩
          have su16 : sz (u16) ≤ 8 := by rw [← HZ16.out]; have := sz_mul (a) (a); omega
          obtain ⟨u17, HZ17⟩ : ∃ z, Hid ((b) * (b) = z) := ⟨_, Lib.hid rfl⟩
          have su17 : sz (u17) ≤ 8 := by rw [← HZ17.out]; have := sz_mul (b) (b); omega
          obtain ⟨u18, HZ18⟩ : ∃ z, Hid ((su) * (su) = z) := ⟨_, Lib.hid rfl⟩
          have su18 : sz (u18) ≤ 202 := by rw [← HZ18.out]; have := sz_mul (su) (su); omega
          have lx5 := HF.out.c 0 rfl
          have lx3 := (BX3.out.gr HF.out.1).cells
          have lx4 := (BX4.out.gr HF.out.1).cells
          refine kS fun K hK => ?_
          have HG0 : Hid (Gr vw27 vw27) := Lib.hid (Gr.refl _)
          refine wp_region_early 12 [] [] (fun _ => 0) (fun _ => .cells #[] 0) (fun i => (1, #[.int .u64 ((lo (Int.natAbs ((u18).num)) : Nat) : Int), .string (bg (Int.natAbs ((u18).num))), .bool (decide (((u18).num) < 0)), .int .u64 ((lo ((u18).den - 1) : Nat) : Int), .string (bg ((u18).den - 1))], 36)) [(0, 0), (0, 2), (0, 4), (0, 1), (0, 3), (0, 5), (1, 6), (2, 6), (0, 7), (0, 8), (0, 9), (0, 10), (0, 11)] (by kernel_rfl) (by kernel_rfl) (fun i hi => by cases hi) (fun i hi => by cases hi) (fun _ _ _ _ _ h => h) (fun T hT => ?_)
          iterate 3 (refine wpEarly_takeL (v := ?_) rfl (by rfl) (fun w' hw => ?_) ?_; rotate_left; go_simp; with_reducible rfl; simp only [Act.put, lA, lB, lC])
          refine wpEarly_callL rfl (by rfl) Tryz.call37 (fun w' hw => fsquare_any (a) (u16) _ (Lib.hid HZ16.out) om) (by rfl) ?_
          simp only [Act.put, lA, lB, lC]
          refine wpEarly_callL rfl (by rfl) Tryz.call37 (fun w' hw => fsquare_any (b) (u17) _ (Lib.hid HZ17.out) om) (by rfl) ?_
          simp only [Act.put, lA, lB, lC]
          refine wpEarly_callL rfl (by rfl) Tryz.call37 (fun w' hw => fsquare_any (su) (u18) _ (Lib.hid HZ18.out) om) (by rfl) ?_
          simp only [Act.put, lA, lB, lC]
          refine wpEarly_mk rfl (by rfl) (fun w' => ?_) ?_
          · go_simp
          refine wpEarly_use rfl (by rfl) (fun gx18 vv18 hg0 yx18 bx18 => ?_)
          clear yx18
          replace HG0 := Lib.hid (HG0.out.trans hg0)
          have HGS := Lib.hid hg0; clear hg0
          clear HGS
          have BX18 := Lib.hid bx18; clear bx18
          clear lx5; have lx5 := fun w' (h : Gr _ w') => HF.out.c 0 rfl w' (HG0.out.trans h)
          clear lx3; have lx3 := fun w' (h : Gr _ w') => (BX3.out.gr HF.out.1).cells w' (HG0.out.trans h)
          clear lx4; have lx4 := fun w' (h : Gr _ w') => (BX4.out.gr HF.out.1).cells w' (HG0.out.trans h)
          simp only [Act.put, lA, lB, lC]
          refine wpEarly_callL rfl (by rfl) Tryz.call34 (fun w' hw => zorder (u16) (u17) (u18) _ 1 (f1_ (u18)) (gg) _ (Lib.hid (fs1 BX18.out hw)) (by omega) (Lib.hid (fsz1 om)) (Lib.hid (qsum1 _)) om om om (by simp only [← HZ18.out, ← HZ17.out, ← HZ16.out]; exact sq_nn a) (by simp only [← HZ18.out, ← HZ17.out, ← HZ16.out]; exact sq_nn b) (by simp only [← HZ18.out, ← HZ17.out, ← HZ16.out]; exact sq_nn su) (by simp only [← HZ18.out, ← HZ17.out, ← HZ16.out]; exact HSQ.out)) (by rfl) ?_
          simp only [Act.put, lA, lB, lC]
          iterate 4 (refine wpEarly_takeL (v := ?_) rfl (by rfl) (fun w' hw => ?_) ?_; rotate_left; go_simp; with_reducible rfl; simp only [Act.put, lA, lB, lC])
          refine wpEarly_nil (hT.out _ _ ?_)
          intro G vw28 hg hf
          simp only [puts, Act.put, lA, lB, lC, lD, lE, ↓reduceIte, Nat.reduceEqDiff]
          have HG := Lib.hid (HF.out.gr (HG0.out.trans hg))
          clear hT T HF hg hf HG0 BX18 lx5 lx3 lx4
          go_wp2
          refine hK.out _ _ ?_; clear hK K
          show Code.wp _ _ _ _ _
          have HF := HG; clear HG
          by_cases ha0 : a = 0
          · have HAZ := Lib.hid ha0
            have HDT : Hid (d = 0) := Lib.hid (HDZ.out.2 (.inl ha0))
            clear ha0
            have HB := HPb HF
            have hd1 : 0 ≤ d := by omega
            have hdz : (d == 0) = true := by have h9 := HDT.out; simp [h9]
            obtain ⟨u19, HZ19⟩ : ∃ z, Hid ((a) + (b) = z) := ⟨_, Lib.hid rfl⟩
            have su19 : sz (u19) ≤ 9 := by rw [← HZ19.out]; have := sz_add (a) (b); omega
            have hgg : (gg == gg) = true := by simp
            have lx5 := HF.out.c 0 rfl
            have lx3 := (BX3.out.gr HF.out.1).cells
            have lx4 := (BX4.out.gr HF.out.1).cells
            refine kS fun K hK => ?_
            refine pd 35 [(true, 0), (true, 1), (true, 2), (true, 3), (true, 4), (true, 5), (true, 6), (true, 7), (true, 8), (true, 9), (true, 10), (true, 11), (true, 12), (true, 13), (true, 14), (true, 15), (true, 16), (true, 17), (true, 18), (true, 19), (true, 20), (true, 21), (true, 22), (true, 24), (true, 23), (true, 25), (true, 26), (true, 27), (true, 28), (true, 29), (true, 30), (true, 31), (true, 32), (true, 33), (true, 34)] fun T hT => ?_
            iterate 10 refine tk ?_
            refine ck Tryz.call35 (fun w' hw => fsign_any (a) (0) _ (by have e9 : (a) = (0 : Rat) := (by exact HAZ.out); exact sgQ_zero' e9)) ?_
            iterate 2 refine tk ?_
            iterate 3 refine sk ?_
            iterate 8 refine tk ?_
            refine ck Tryz.call30 (fun w' hw => fadd_any (a) (b) (u19) _ HZ19.out om om) ?_
            refine ck Tryz.call38 (fun w' hw => fcmp_any (u19) (su) (gg) _ (by simp only [← HZ19.out, ← HZ18.out, ← HZ17.out, ← HZ16.out]; exact HGG.out) om om) ?_
            iterate 7 refine tk ?_
            refine ck Tryz.call22 (fun w' hw => works5_any _ (Lib.hid (HT.out.gr (Gr.trans HB.out hw)))) ?_
            refine tk ?_
            refine nlD hT HF fun vw29 HG => ?_
            clear hT T HF lx5 lx3 lx4 HB
            go_wp2
            refine hK.out _ _ ?_; clear hK K
            show Code.wp _ _ _ _ _
            refine fH ((HG.out).er 0) fun Wx28 HF => ?_
            clear HG
            clear hd1 hdz hgg
            refine wp_ret ?_
            try simp only [Exit.then, Exit.inBlock]
            exact bodyPost_ret (v := .bool true) (by simp [results, Tryz.results8, go_sem]) rfl ⟨rfl, HBW.out.trans (HF.out.1.mono HBW.out.size)⟩
          · obtain ⟨sa, HSA⟩ : ∃ z, Hid (sgQ a = z) := ⟨_, Lib.hid rfl⟩
            obtain ⟨sb, HSB⟩ : ∃ z, Hid (sgQ b = z) := ⟨_, Lib.hid rfl⟩
            have hsan : ¬ sa = 0 := by rw [← HSA.out]; exact sgQ_ne ha0
            obtain ⟨bz, HBZ⟩ : ∃ z, Hid ((sb == 0) = z) := ⟨_, Lib.hid rfl⟩
            have HBD : Hid ((d == 0) = bz) := Lib.hid (by
              rw [← HBZ.out, ← HSB.out]
              have h9 := HDZ.out
              by_cases hb9 : b = 0
              · rw [h9.2 (.inr hb9), hb9]; rfl
              · have e1 : ¬ d = 0 := fun e => by rcases h9.1 e with h | h; exact ha0 h; exact hb9 h
                have e2 := sgQ_ne hb9
                have e3 : (d == 0) = false := by simpa using e1
                have e4 : (sgQ b == 0) = false := by simpa using e2
                rw [e3, e4])
            clear ha0
            have HB := HPb HF
            have hd1 : 0 ≤ d := by omega
            have hdz : (d == 0) = bz := HBD.out
            have hsz : (sa == 0) = false := by simpa using hsan
            have hsbz : (sb == 0) = bz := HBZ.out
            have hbb : (bz == bz) = true := by simp
            obtain ⟨u19, HZ19⟩ : ∃ z, Hid ((a) + (b) = z) := ⟨_, Lib.hid rfl⟩
            have su19 : sz (u19) ≤ 9 := by rw [← HZ19.out]; have := sz_add (a) (b); omega
            have hgg : (gg == gg) = true := by simp
            have lx5 := HF.out.c 0 rfl
            have lx3 := (BX3.out.gr HF.out.1).cells
            have lx4 := (BX4.out.gr HF.out.1).cells
            refine kS fun K hK => ?_
            refine pd 35 [(true, 0), (true, 1), (true, 2), (true, 3), (true, 4), (true, 5), (true, 6), (true, 7), (true, 8), (true, 9), (true, 10), (true, 11), (true, 12), (true, 13), (true, 14), (true, 15), (true, 16), (true, 17), (true, 18), (true, 19), (true, 20), (true, 21), (true, 22), (true, 24), (true, 23), (true, 25), (true, 26), (true, 27), (true, 28), (true, 29), (true, 30), (true, 31), (true, 32), (true, 33), (true, 34)] fun T hT => ?_
            iterate 10 refine tk ?_
            refine ck Tryz.call35 (fun w' hw => fsign_any (a) (sa) _ (HSA.out)) ?_
            iterate 3 refine tk ?_
            refine ck Tryz.call35 (fun w' hw => fsign_any (b) (sb) _ (HSB.out)) ?_
            iterate 9 refine tk ?_
            refine ck Tryz.call30 (fun w' hw => fadd_any (a) (b) (u19) _ HZ19.out om om) ?_
            refine ck Tryz.call38 (fun w' hw => fcmp_any (u19) (su) (gg) _ (by simp only [← HZ19.out, ← HZ18.out, ← HZ17.out, ← HZ16.out]; exact HGG.out) om om) ?_
            iterate 7 refine tk ?_
            refine ck Tryz.call22 (fun w' hw => works5_any _ (Lib.hid (HT.out.gr (Gr.trans HB.out hw)))) ?_
            refine tk ?_
            refine nlD hT HF fun vw29 HG => ?_
            clear hT T HF lx5 lx3 lx4 HB
            go_wp2
            refine hK.out _ _ ?_; clear hK K
            show Code.wp _ _ _ _ _
            refine fH ((HG.out).er 0) fun Wx28 HF => ?_
            clear HG
            clear hd1 hdz hsz hsbz hbb hgg
            refine wp_ret ?_
            try simp only [Exit.then, Exit.inBlock]
            exact bodyPost_ret (v := .bool true) (by simp [results, Tryz.results8, go_sem]) rfl ⟨rfl, HBW.out.trans (HF.out.1.mono HBW.out.size)⟩
        · obtain ⟨c3, HC3⟩ : ∃ z, Hid (sgQ (lw - hs) = z) := ⟨_, Lib.hid rfl⟩
          obtain ⟨c4, HC4⟩ : ∃ z, Hid (sgQ (ls - hg) = z) := ⟨_, Lib.hid rfl⟩
          have hc3 : ¬ 0 < c3 := by rw [← HC3.out, ← HLW.out]; exact sgQ_np (ordv_le HA0.out HB0.out nla nlb nhs qla qlb qhs HOV.out)
          have hc4 : ¬ 0 < c4 := by rw [← HC4.out, ← HHG.out]; exact sgQ_np (ordv_ge HA0.out HB0.out nha nhb nls qha qhb qls (by rw [HOV.out]; decide))
          clear nla nlb nha nhb nls nhs qla qlb qls qha qhb qhs
          have HB := HPb HF
          refine kS fun K hK => ?_
          refine sq 2 [(true, 0), (true, 1)] fun T hT => ?_
          refine tk ?_
          refine ck Tryz.call40 (fun w' hw => fsum_list n f _ su _ (HFS.out.gr (Gr.trans HB.out hw)) (by omega) HSa.out HSU.out) ?_
          refine nlS hT HF fun vw4 HG => ?_
          clear hT T HF HB
          go_wp2
          refine hK.out _ _ ?_; clear hK K
          show Code.wp _ _ _ _ _
          refine fH ((HG.out).al (b := vw4.heap.size) (by first | rfl | simp) (by decide)) fun Wx9 HF => ?_
          clear HG
          generalize vw4.heap.size = gx5 at *
          have HB := HPb HF
          have lx3 := (BX3.out.gr HF.out.1).cells
          have lx4 := (BX4.out.gr HF.out.1).cells
          refine kS fun K hK => ?_
          refine sq 9 [(true, 0), (true, 1), (true, 2), (true, 3), (true, 4), (true, 5), (true, 6), (true, 7), (true, 8)] fun T hT => ?_
          iterate 3 refine tk ?_
          refine ck Tryz.call34 (fun w' hw => zorder (a) (b) su _ n f (0) _ (Lib.hid (HFS.out.gr (Gr.trans HB.out hw))) (by omega) HSa HSU (by omega) om om (HA0.out) (HB0.out) (HS0.out) (HOV.out)) ?_
          iterate 5 refine tk ?_
          refine nlS hT HF fun vw5 HG => ?_
          clear hT T HF lx3 lx4 HB
          go_wp2
          refine hK.out _ _ ?_; clear hK K
          show Code.wp _ _ _ _ _
          have HF := HG; clear HG
          refine wp_seq ?_
          obtain ⟨t5, HT5⟩ : ∃ z, Hid (sgQ (su) = z) := ⟨_, Lib.hid rfl⟩
          have ht5 : 0 ≤ t5 := by rw [← HT5.out]; exact sgQ_nn0 HS0.out
          have hd1 : ¬ (t5 < 0) := by first | exact ok | exact HS0.out | exact HLT.out | exact HLW.out | exact HHG.out | exact Rat.zero_add _ | exact HA0.out | exact HB0.out
          have lx5 := HF.out.c 0 rfl
          refine kS fun K hK => ?_
          refine sq 3 [(true, 0), (true, 1), (true, 2)] fun T hT => ?_
          refine tk ?_
          refine ck Tryz.call35 (fun w' hw => fsign_any (su) (t5) _ HT5.out) ?_
          refine tk ?_
          refine nlS hT HF fun vw6 HG => ?_
          clear hT T HF lx5
          go_wp2
          refine hK.out _ _ ?_; clear hK K
          show Code.wp _ _ _ _ _
          have HF := HG; clear HG
          clear ht5 hd1
          refine wp_cond_false (by rfl) ?_
          refine wp_skip ?_
          show Code.wp _ _ _ _ _
          refine kS fun K hK => ?_
          refine sq 2 [(true, 0), (true, 1)] fun T hT => ?_
          iterate 2 refine tk ?_
          refine nlS hT HF fun vw7 HG => ?_
          clear hT T HF
          go_wp2
          refine hK.out _ _ ?_; clear hK K
          show Code.wp _ _ _ _ _
          refine fH (((HG.out).al (b := vw7.heap.size) (by first | rfl | simp) (by decide)).al (b := vw7.heap.size + 1) (by first | rfl | simp) (by decide)) fun Wx13 HF => ?_
          clear HG
          generalize vw7.heap.size + 1 = gx7 at *
          generalize vw7.heap.size = gx6 at *
          refine wp_seq ?_
          have lx3 := (BX3.out.gr HF.out.1).cells
          have lx4 := (BX4.out.gr HF.out.1).cells
          refine kS fun K hK => ?_
          have HG0 : Hid (Gr Wx13 Wx13) := Lib.hid (Gr.refl _)
          refine sq 5 [(true, 0), (true, 1), (false, 2), (true, 3), (true, 4)] fun T hT => ?_
          iterate 2 refine tk ?_
          refine wpPlan_slice (cs := #[.int .u64 ((lo (Int.natAbs ((a).num)) : Nat) : Int), .string (bg (Int.natAbs ((a).num))), .bool (decide (((a).num) < 0)), .int .u64 ((lo ((a).den - 1) : Nat) : Int), .string (bg ((a).den - 1)), .int .u64 ((lo (Int.natAbs ((b).num)) : Nat) : Int), .string (bg (Int.natAbs ((b).num))), .bool (decide (((b).num) < 0)), .int .u64 ((lo ((b).den - 1) : Nat) : Int), .string (bg ((b).den - 1))]) (E := 36) (n := 2) rfl (by rfl) (fun w' hw => ?_) (fun gx8 vv8 hg0 yx8 bx8 => ?_)
          · go_simp
          have YX8 := Lib.hid (Nat.le_trans HG0.out.size yx8)
          clear yx8
          replace HG0 := Lib.hid (HG0.out.trans hg0)
          have HGS := Lib.hid hg0; clear hg0
          clear HGS
          have BX8 := Lib.hid bx8; clear bx8
          clear lx3; have lx3 := fun w' (h : Gr _ w') => (BX3.out.gr HF.out.1).cells w' (HG0.out.trans h)
          clear lx4; have lx4 := fun w' (h : Gr _ w') => (BX4.out.gr HF.out.1).cells w' (HG0.out.trans h)
          simp only [Act.put, lA, lB, lC]
          iterate 2 refine tk ?_
          refine wpPlan_nil (hT.out _ _ ?_)
          intro vw8 hg
          simp only [puts, Act.put, lA, lB, lC, lD, lE, ↓reduceIte, Nat.reduceEqDiff]
          have HG := Lib.hid (HF.out.grS (HG0.out.trans hg) YX8.out (BX8.out.gr hg) (by decide))
          simp only [List.zip_cons_cons, List.zip_nil_right, List.map_cons, List.map_nil, lF, lG] at HG
          clear hT T HF hg HG0 BX8 lx3 lx4
          clear YX8
          go_wp2
          refine hK.out _ _ ?_; clear hK K
          show Code.wp _ _ _ _ _
          have HF := HG; clear HG
          refine wp_block ?_
          refine wp_loop_rounds 4 ?_
          rw [rounds_succ]
          refine kS fun K hK => ?_
          refine sq 1 [(true, 0)] fun T hT => ?_
          refine tk ?_
          refine nlS hT HF fun vw9 HG => ?_
          clear hT T HF
          go_wp2
          refine hK.out _ _ ?_; clear hK K
          show Code.wp _ _ _ _ _
          have HF := HG; clear HG
          refine wp_seq ?_
          refine wp_cond_true (by rfl) ?_
          refine wp_skip ?_
          show Code.wp _ _ _ _ _
          refine wp_seq ?_
          refine wp_block ?_
          have lx8 := HF.out.c 3 rfl
          refine kS fun K hK => ?_
          refine sq 2 [(true, 0), (true, 1)] fun T hT => ?_
          iterate 2 refine tk ?_
          refine nlS hT HF fun vw10 HG => ?_
          clear hT T HF lx8
          go_wp2
          refine hK.out _ _ ?_; clear hK K
          show Code.wp _ _ _ _ _
          refine fH ((HG.out).al (b := vw10.heap.size) (by first | rfl | simp) (by decide)) fun Wx16 HF => ?_
          clear HG
          generalize vw10.heap.size = gx9 at *
          have HZ6 : Hid (rlo (a) 80 = la) := Lib.hid (HLA.out)
          have su6 : sz (la) ≤ 14 := by have e := HZ6.out; first | omega | (rw [← e]; exact Nat.le_trans (sz_rlo (by omega) om) (by omega))
          have lx9 := HF.out.c 4 rfl
          refine kS fun K hK => ?_
          refine sq 5 [(true, 0), (true, 1), (true, 2), (true, 3), (true, 4)] fun T hT => ?_
          refine tk ?_
          refine ck Tryz.call23 (fun w' hw => rBelow_ok (a) (la) 80 _ (Lib.hid (by first | exact ok | exact HS0.out | exact HLT.out | exact HLW.out | exact HHG.out | exact Rat.zero_add _ | exact HA0.out | exact HB0.out)) (Lib.hid HZ6.out) (by omega) om) ?_
          iterate 3 refine tk ?_
          refine nlS hT HF fun vw11 HG => ?_
          clear hT T HF lx9
          go_wp2
          refine hK.out _ _ ?_; clear hK K
          show Code.wp _ _ _ _ _
          refine fH ((HG.out).al (b := vw11.heap.size) (by first | rfl | simp) (by decide)) fun Wx17 HF => ?_
          clear HG
          generalize vw11.heap.size = gx10 at *
          have HZ7 : Hid (rhi (a) 80 = ha) := Lib.hid (HHA.out)
          have su7 : sz (ha) ≤ 14 := by have e := HZ7.out; first | omega | (rw [← e]; exact Nat.le_trans (sz_rhi (by omega) om) (by omega))
          have lx9 := HF.out.c 4 rfl
          refine kS fun K hK => ?_
          refine sq 5 [(true, 0), (true, 1), (true, 2), (true, 3), (true, 4)] fun T hT => ?_
          refine tk ?_
          refine ck Tryz.call25 (fun w' hw => rAbove_ok (a) (ha) 80 _ (Lib.hid (by first | exact ok | exact HS0.out | exact HLT.out | exact HLW.out | exact HHG.out | exact Rat.zero_add _ | exact HA0.out | exact HB0.out)) (Lib.hid HZ7.out) (by omega) om) ?_
          iterate 3 refine tk ?_
          refine nlS hT HF fun vw12 HG => ?_
          clear hT T HF lx9
          go_wp2
          refine hK.out _ _ ?_; clear hK K
          show Code.wp _ _ _ _ _
          refine fH ((HG.out).al (b := vw12.heap.size) (by first | rfl | simp) (by decide)) fun Wx18 HF => ?_
          clear HG
          generalize vw12.heap.size = gx11 at *
          have HZ8 : Hid ((0 : Rat) + (la) = la) := Lib.hid (by first | exact ok | exact HS0.out | exact HLT.out | exact HLW.out | exact HHG.out | exact Rat.zero_add _ | exact HA0.out | exact HB0.out)
          have su8 : sz (la) ≤ 16 := by have e := HZ8.out; first | omega | (rw [← e]; have := sz_add (0 : Rat) (la); omega)
          have lx6 := HF.out.c 1 rfl
          have lx10 := HF.out.c 5 rfl
          refine kS fun K hK => ?_
          refine sq 3 [(true, 0), (true, 1), (true, 2)] fun T hT => ?_
          iterate 2 refine tk ?_
          refine ck Tryz.call30 (fun w' hw => fadd_any (0 : Rat) (la) (la) _ HZ8.out om om) ?_
          refine nlS hT HF fun vw13 HG => ?_
          clear hT T HF lx6 lx10
          have lx6 := HG.out.c 1 rfl; have fx6 := HG.out.f 1 rfl
          have r0 := Gr.refl vw13
          go_wp2
          refine hK.out _ _ ?_; clear hK K
          show Code.wp _ _ _ _ _
          clear r0 lx6 fx6
          refine fH ((((HG.out).put2 1 0 rfl).put2 1 2 rfl).put 1 4 _ rfl) fun Wx19 HF => ?_
          clear HG
          have HZ9 : Hid ((0 : Rat) + (ha) = ha) := Lib.hid (by first | exact ok | exact HS0.out | exact HLT.out | exact HLW.out | exact HHG.out | exact Rat.zero_add _ | exact HA0.out | exact HB0.out)
          have su9 : sz (ha) ≤ 16 := by have e := HZ9.out; first | omega | (rw [← e]; have := sz_add (0 : Rat) (ha); omega)
          have lx7 := HF.out.c 2 rfl
          have lx11 := HF.out.c 6 rfl
          refine kL fun K hK => ?_
          refine sq 3 [(true, 0), (true, 1), (true, 2)] fun T hT => ?_
          iterate 2 refine tk ?_
          refine ck Tryz.call30 (fun w' hw => fadd_any (0 : Rat) (ha) (ha) _ HZ9.out om om) ?_
          refine nlS hT HF fun vw14 HG => ?_
          clear hT T HF lx7 lx11
          have lx7 := HG.out.c 2 rfl; have fx7 := HG.out.f 2 rfl
          have r0 := Gr.refl vw14
          go_wp2
          refine hK.out _ _ ?_; clear hK K
          show Code.wp _ _ _ _ _
          clear r0 lx7 fx7
          refine fH ((((HG.out).put2 2 0 rfl).put2 2 2 rfl).put 2 4 _ rfl) fun Wx20 HF => ?_
          clear HG
          refine kL fun K hK => ?_
          refine sq 2 [(true, 0), (true, 1)] fun T hT => ?_
          iterate 2 refine tk ?_
          refine nlS hT HF fun vw15 HG => ?_
          clear hT T HF
          go_wp2
          refine hK.out _ _ ?_; clear hK K
          show Code.rounds _ _ _ _ _ _
          rw [rounds_succ]
          have HF := HG; clear HG
          refine kS fun K hK => ?_
          refine sq 1 [(true, 0)] fun T hT => ?_
          refine tk ?_
          refine nlS hT HF fun vw16 HG => ?_
          clear hT T HF
          go_wp2
          refine hK.out _ _ ?_; clear hK K
          show Code.wp _ _ _ _ _
          have HF := HG; clear HG
          refine wp_seq ?_
          refine wp_cond_true (by rfl) ?_
          refine wp_skip ?_
          show Code.wp _ _ _ _ _
          refine wp_seq ?_
          refine wp_block ?_
          have lx8 := HF.out.c 3 rfl
          refine kS fun K hK => ?_
          refine sq 2 [(true, 0), (true, 1)] fun T hT => ?_
          iterate 2 refine tk ?_
          refine nlS hT HF fun vw17 HG => ?_
          clear hT T HF lx8
          go_wp2
          refine hK.out _ _ ?_; clear hK K
          show Code.wp _ _ _ _ _
          refine fH (((HG.out).al (b := vw17.heap.size) (by first | rfl | simp) (by decide)).er 4) fun Wx16 HF => ?_
          clear HG
          generalize vw17.heap.size = gx12 at *
          have HZ10 : Hid (rlo (b) 80 = lb) := Lib.hid (HLB.out)
          have su10 : sz (lb) ≤ 14 := by have e := HZ10.out; first | omega | (rw [← e]; exact Nat.le_trans (sz_rlo (by omega) om) (by omega))
          have lx12 := HF.out.c 6 rfl
          refine kS fun K hK => ?_
          refine sq 5 [(true, 0), (true, 1), (true, 2), (true, 3), (true, 4)] fun T hT => ?_
          refine tk ?_
          refine ck Tryz.call23 (fun w' hw => rBelow_ok (b) (lb) 80 _ (Lib.hid (by first | exact ok | exact HS0.out | exact HLT.out | exact HLW.out | exact HHG.out | exact Rat.zero_add _ | exact HA0.out | exact HB0.out)) (Lib.hid HZ10.out) (by omega) om) ?_
          iterate 3 refine tk ?_
          refine nlS hT HF fun vw18 HG => ?_
          clear hT T HF lx12
          go_wp2
          refine hK.out _ _ ?_; clear hK K
          show Code.wp _ _ _ _ _
          refine fH (((HG.out).al (b := vw18.heap.size) (by first | rfl | simp) (by decide)).er 4) fun Wx17 HF => ?_
          clear HG
          generalize vw18.heap.size = gx13 at *
          have HB := HPb HF
          have HZ11 : Hid (rhi (b) 80 = hb) := Lib.hid (HHB.out)
          have su11 : sz (hb) ≤ 14 := by have e := HZ11.out; first | omega | (rw [← e]; exact Nat.le_trans (sz_rhi (by omega) om) (by omega))
          have lx12 := HF.out.c 5 rfl
          refine kS fun K hK => ?_
          refine sq 5 [(true, 0), (true, 1), (true, 2), (true, 3), (true, 4)] fun T hT => ?_
          refine tk ?_
          refine ck Tryz.call25 (fun w' hw => rAbove_ok (b) (hb) 80 _ (Lib.hid (by first | exact ok | exact HS0.out | exact HLT.out | exact HLW.out | exact HHG.out | exact Rat.zero_add _ | exact HA0.out | exact HB0.out)) (Lib.hid HZ11.out) (by omega) om) ?_
          iterate 3 refine tk ?_
          refine nlS hT HF fun vw19 HG => ?_
          clear hT T HF lx12 HB
          go_wp2
          refine hK.out _ _ ?_; clear hK K
          show Code.wp _ _ _ _ _
          refine fH (((HG.out).al (b := vw19.heap.size) (by first | rfl | simp) (by decide)).er 4) fun Wx18 HF => ?_
          clear HG
          generalize vw19.heap.size = gx14 at *
          have HZ12 : Hid ((la) + (lb) = lw) := Lib.hid (by first | exact ok | exact HS0.out | exact HLT.out | exact HLW.out | exact HHG.out | exact Rat.zero_add _ | exact HA0.out | exact HB0.out)
          have su12 : sz (lw) ≤ 31 := by have e := HZ12.out; first | omega | (rw [← e]; have := sz_add (la) (lb); omega)
          have lx6 := HF.out.c 1 rfl
          have lx13 := HF.out.c 5 rfl
          refine kS fun K hK => ?_
          refine sq 3 [(true, 0), (true, 1), (true, 2)] fun T hT => ?_
          iterate 2 refine tk ?_
          refine ck Tryz.call30 (fun w' hw => fadd_any (la) (lb) (lw) _ HZ12.out om om) ?_
          refine nlS hT HF fun vw20 HG => ?_
          clear hT T HF lx6 lx13
          have lx6 := HG.out.c 1 rfl; have fx6 := HG.out.f 1 rfl
          have r0 := Gr.refl vw20
          go_wp2
          refine hK.out _ _ ?_; clear hK K
          show Code.wp _ _ _ _ _
          clear r0 lx6 fx6
          refine fH ((((HG.out).put2 1 0 rfl).put2 1 2 rfl).put 1 4 _ rfl) fun Wx19 HF => ?_
          clear HG
          have HZ13 : Hid ((ha) + (hb) = hg) := Lib.hid (by first | exact ok | exact HS0.out | exact HLT.out | exact HLW.out | exact HHG.out | exact Rat.zero_add _ | exact HA0.out | exact HB0.out)
          have su13 : sz (hg) ≤ 31 := by have e := HZ13.out; first | omega | (rw [← e]; have := sz_add (ha) (hb); omega)
          have lx7 := HF.out.c 2 rfl
          have lx14 := HF.out.c 6 rfl
          refine kL fun K hK => ?_
          refine sq 3 [(true, 0), (true, 1), (true, 2)] fun T hT => ?_
          iterate 2 refine tk ?_
          refine ck Tryz.call30 (fun w' hw => fadd_any (ha) (hb) (hg) _ HZ13.out om om) ?_
          refine nlS hT HF fun vw21 HG => ?_
          clear hT T HF lx7 lx14
          have lx7 := HG.out.c 2 rfl; have fx7 := HG.out.f 2 rfl
          have r0 := Gr.refl vw21
          go_wp2
          refine hK.out _ _ ?_; clear hK K
          show Code.wp _ _ _ _ _
          clear r0 lx7 fx7
          refine fH ((((HG.out).put2 2 0 rfl).put2 2 2 rfl).put 2 4 _ rfl) fun Wx20 HF => ?_
          clear HG
          refine kL fun K hK => ?_
          refine sq 2 [(true, 0), (true, 1)] fun T hT => ?_
          iterate 2 refine tk ?_
          refine nlS hT HF fun vw22 HG => ?_
          clear hT T HF
          go_wp2
          refine hK.out _ _ ?_; clear hK K
          show Code.rounds _ _ _ _ _ _
          rw [rounds_succ]
          have HF := HG; clear HG
          refine kS fun K hK => ?_
          refine sq 1 [(true, 0)] fun T hT => ?_
          refine tk ?_
          refine nlS hT HF fun vw23 HG => ?_
          clear hT T HF
          go_wp2
          refine hK.out _ _ ?_; clear hK K
          show Code.wp _ _ _ _ _
          have HF := HG; clear HG
          refine wp_seq ?_
          refine wp_cond_false (by rfl) ?_
          refine wp_exit ?_
          show Code.wp _ _ _ _ _
          have HZ14 : Hid (rlo (su) 80 = ls) := Lib.hid (HLS.out)
          have su14 : sz (ls) ≤ 111 := by have e := HZ14.out; first | omega | (rw [← e]; exact Nat.le_trans (sz_rlo (by omega) om) (by omega))
          have lx5 := HF.out.c 0 rfl
          refine kS fun K hK => ?_
          refine sq 5 [(true, 0), (true, 1), (true, 2), (true, 3), (true, 4)] fun T hT => ?_
          refine tk ?_
          refine ck Tryz.call23 (fun w' hw => rBelow_ok (su) (ls) 80 _ (Lib.hid (by first | exact ok | exact HS0.out | exact HLT.out | exact HLW.out | exact HHG.out | exact Rat.zero_add _ | exact HA0.out | exact HB0.out)) (Lib.hid HZ14.out) (by omega) om) ?_
          iterate 3 refine tk ?_
          refine nlS hT HF fun vw24 HG => ?_
          clear hT T HF lx5
          go_wp2
          refine hK.out _ _ ?_; clear hK K
          show Code.wp _ _ _ _ _
          refine fH ((((((HG.out).al (b := vw24.heap.size) (by first | rfl | simp) (by decide)).er 6).er 5).er 4).er 3) fun Wx22 HF => ?_
          clear HG
          generalize vw24.heap.size = gx15 at *
          have HZ15 : Hid (rhi (su) 80 = hs) := Lib.hid (HHS.out)
          have su15 : sz (hs) ≤ 111 := by have e := HZ15.out; first | omega | (rw [← e]; exact Nat.le_trans (sz_rhi (by omega) om) (by omega))
          have lx5 := HF.out.c 0 rfl
          refine kS fun K hK => ?_
          refine sq 5 [(true, 0), (true, 1), (true, 2), (true, 3), (true, 4)] fun T hT => ?_
          refine tk ?_
          refine ck Tryz.call25 (fun w' hw => rAbove_ok (su) (hs) 80 _ (Lib.hid (by first | exact ok | exact HS0.out | exact HLT.out | exact HLW.out | exact HHG.out | exact Rat.zero_add _ | exact HA0.out | exact HB0.out)) (Lib.hid HZ15.out) (by omega) om) ?_
          iterate 3 refine tk ?_
          refine nlS hT HF fun vw25 HG => ?_
          clear hT T HF lx5
          go_wp2
          refine hK.out _ _ ?_; clear hK K
          show Code.wp _ _ _ _ _
          refine fH ((HG.out).al (b := vw25.heap.size) (by first | rfl | simp) (by decide)) fun Wx23 HF => ?_
          clear HG
          generalize vw25.heap.size = gx16 at *
          refine wp_seq ?_
          have hcc3 : ¬ 0 < c3 := by omega
          have hcc4 : ¬ 0 < c4 := by omega
          have lx6 := HF.out.c 1 rfl
          have lx7 := HF.out.c 2 rfl
          have lx15 := HF.out.c 3 rfl
          have lx16 := HF.out.c 4 rfl
          refine kS fun K hK => ?_
          refine sq 43 [(true, 0), (true, 1), (true, 2), (true, 3), (true, 4), (true, 5), (true, 6), (true, 7), (true, 8), (true, 9), (true, 10), (true, 11), (true, 12), (true, 13), (true, 14), (true, 15), (true, 16), (true, 17), (true, 18), (true, 19), (true, 20), (true, 21), (true, 22), (true, 23), (true, 24), (true, 25), (true, 26), (true, 27), (true, 28), (true, 29), (true, 30), (true, 31), (true, 32), (true, 33), (true, 34), (true, 35), (true, 36), (true, 37), (true, 38), (true, 39), (true, 40), (true, 41), (true, 42)] fun T hT => ?_
          iterate 6 refine tk ?_
          iterate 4 refine sk ?_
          iterate 2 refine tk ?_
          iterate 3 refine sk ?_
          iterate 6 refine tk ?_
          iterate 4 refine sk ?_
          iterate 8 refine tk ?_
          refine ck Tryz.call38 (fun w' hw => fcmp_any (lw) (hs) (c3) _ (HC3.out) om om) ?_
          iterate 4 refine tk ?_
          refine ck Tryz.call38 (fun w' hw => fcmp_any (ls) (hg) (c4) _ (HC4.out) om om) ?_
          iterate 4 refine tk ?_
          refine nlS hT HF fun vw26 HG => ?_
          clear hT T HF lx6 lx7 lx15 lx16
          go_wp2
          refine hK.out _ _ ?_; clear hK K
          show Code.wp _ _ _ _ _
          refine fH (((((HG.out).er 4).er 3).er 2).er 1) fun Wx24 HF => ?_
          clear HG
          clear hcc3 hcc4
          refine wp_cond_false (by rfl) ?_
          refine wp_skip ?_
          show Code.wp _ _ _ _ _
          have lx3 := (BX3.out.gr HF.out.1).cells
          have lx4 := (BX4.out.gr HF.out.1).cells
          refine kS fun K hK => ?_
          have HG0 : Hid (Gr Wx24 Wx24) := Lib.hid (Gr.refl _)
          refine sq 11 [(true, 0), (true, 1), (true, 2), (true, 3), (false, 4), (true, 5), (true, 6), (true, 7), (true, 8), (true, 9), (true, 10)] fun T hT => ?_
          iterate 4 refine tk ?_
          refine wpPlan_slice (cs := #[.int .u64 ((lo (Int.natAbs ((a).num)) : Nat) : Int), .string (bg (Int.natAbs ((a).num))), .bool (decide (((a).num) < 0)), .int .u64 ((lo ((a).den - 1) : Nat) : Int), .string (bg ((a).den - 1)), .int .u64 ((lo (Int.natAbs ((b).num)) : Nat) : Int), .string (bg (Int.natAbs ((b).num))), .bool (decide (((b).num) < 0)), .int .u64 ((lo ((b).den - 1) : Nat) : Int), .string (bg ((b).den - 1))]) (E := 36) (n := 2) rfl (by rfl) (fun w' hw => ?_) (fun gx17 vv17 hg0 yx17 bx17 => ?_)
          · go_simp
          clear yx17
          replace HG0 := Lib.hid (HG0.out.trans hg0)
          have HGS := Lib.hid hg0; clear hg0
          clear HGS
          have BX17 := Lib.hid bx17; clear bx17
          clear lx3; have lx3 := fun w' (h : Gr _ w') => (BX3.out.gr HF.out.1).cells w' (HG0.out.trans h)
          clear lx4; have lx4 := fun w' (h : Gr _ w') => (BX4.out.gr HF.out.1).cells w' (HG0.out.trans h)
          simp only [Act.put, lA, lB, lC]
          refine ck Tryz.call34 (fun w' hw => zorder (a) (b) ((a) + (b)) _ 2 (f2_ (a) (b)) (d) _ (Lib.hid (fs2 BX17.out hw)) (by omega) (Lib.hid (fsz2 om om)) (Lib.hid (qsum2 _ _ _ rfl)) (by have := sz_add (a) (b); omega) om om (HA0.out) (HB0.out) (Rat.add_nonneg HA0.out HB0.out) (HD.out)) ?_
          iterate 5 refine tk ?_
          refine wpPlan_nil (hT.out _ _ ?_)
          intro vw27 hg
          simp only [puts, Act.put, lA, lB, lC, lD, lE, ↓reduceIte, Nat.reduceEqDiff]
          have HG := Lib.hid (HF.out.gr (HG0.out.trans hg))
          clear hT T HF hg HG0 BX17 lx3 lx4
          go_wp2
          refine hK.out _ _ ?_; clear hK K
          show Code.wp _ _ _ _ _
          have HF := HG; clear HG
          obtain ⟨u16, HZ16⟩ : ∃ z, Hid ((a) * (a) = z) := ⟨_, Lib.hid rfl⟩
          have su16 : sz (u16) ≤ 8 := by rw [← HZ16.out]; have := sz_mul (a) (a); omega
          obtain ⟨u17, HZ17⟩ : ∃ z, Hid ((b) * (b) = z) := ⟨_, Lib.hid rfl⟩
          have su17 : sz (u17) ≤ 8 := by rw [← HZ17.out]; have := sz_mul (b) (b); omega
          obtain ⟨u18, HZ18⟩ : ∃ z, Hid ((su) * (su) = z) := ⟨_, Lib.hid rfl⟩
          have su18 : sz (u18) ≤ 202 := by rw [← HZ18.out]; have := sz_mul (su) (su); omega
          have lx5 := HF.out.c 0 rfl
          have lx3 := (BX3.out.gr HF.out.1).cells
          have lx4 := (BX4.out.gr HF.out.1).cells
          refine kS fun K hK => ?_
          have HG0 : Hid (Gr vw27 vw27) := Lib.hid (Gr.refl _)
          refine wp_region_early 12 [] [] (fun _ => 0) (fun _ => .cells #[] 0) (fun i => (1, #[.int .u64 ((lo (Int.natAbs ((u18).num)) : Nat) : Int), .string (bg (Int.natAbs ((u18).num))), .bool (decide (((u18).num) < 0)), .int .u64 ((lo ((u18).den - 1) : Nat) : Int), .string (bg ((u18).den - 1))], 36)) [(0, 0), (0, 2), (0, 4), (0, 1), (0, 3), (0, 5), (1, 6), (2, 6), (0, 7), (0, 8), (0, 9), (0, 10), (0, 11)] (by kernel_rfl) (by kernel_rfl) (fun i hi => by cases hi) (fun i hi => by cases hi) (fun _ _ _ _ _ h => h) (fun T hT => ?_)
          iterate 3 (refine wpEarly_takeL (v := ?_) rfl (by rfl) (fun w' hw => ?_) ?_; rotate_left; go_simp; with_reducible rfl; simp only [Act.put, lA, lB, lC])
          refine wpEarly_callL rfl (by rfl) Tryz.call37 (fun w' hw => fsquare_any (a) (u16) _ (Lib.hid HZ16.out) om) (by rfl) ?_
          simp only [Act.put, lA, lB, lC]
          refine wpEarly_callL rfl (by rfl) Tryz.call37 (fun w' hw => fsquare_any (b) (u17) _ (Lib.hid HZ17.out) om) (by rfl) ?_
          simp only [Act.put, lA, lB, lC]
          refine wpEarly_callL rfl (by rfl) Tryz.call37 (fun w' hw => fsquare_any (su) (u18) _ (Lib.hid HZ18.out) om) (by rfl) ?_
          simp only [Act.put, lA, lB, lC]
          refine wpEarly_mk rfl (by rfl) (fun w' => ?_) ?_
          · go_simp
          refine wpEarly_use rfl (by rfl) (fun gx18 vv18 hg0 yx18 bx18 => ?_)
          clear yx18
          replace HG0 := Lib.hid (HG0.out.trans hg0)
          have HGS := Lib.hid hg0; clear hg0
          clear HGS
          have BX18 := Lib.hid bx18; clear bx18
          clear lx5; have lx5 := fun w' (h : Gr _ w') => HF.out.c 0 rfl w' (HG0.out.trans h)
          clear lx3; have lx3 := fun w' (h : Gr _ w') => (BX3.out.gr HF.out.1).cells w' (HG0.out.trans h)
          clear lx4; have lx4 := fun w' (h : Gr _ w') => (BX4.out.gr HF.out.1).cells w' (HG0.out.trans h)
          simp only [Act.put, lA, lB, lC]
          refine wpEarly_callL rfl (by rfl) Tryz.call34 (fun w' hw => zorder (u16) (u17) (u18) _ 1 (f1_ (u18)) (gg) _ (Lib.hid (fs1 BX18.out hw)) (by omega) (Lib.hid (fsz1 om)) (Lib.hid (qsum1 _)) om om om (by simp only [← HZ18.out, ← HZ17.out, ← HZ16.out]; exact sq_nn a) (by simp only [← HZ18.out, ← HZ17.out, ← HZ16.out]; exact sq_nn b) (by simp only [← HZ18.out, ← HZ17.out, ← HZ16.out]; exact sq_nn su) (by simp only [← HZ18.out, ← HZ17.out, ← HZ16.out]; exact HSQ.out)) (by rfl) ?_
          simp only [Act.put, lA, lB, lC]
          iterate 4 (refine wpEarly_takeL (v := ?_) rfl (by rfl) (fun w' hw => ?_) ?_; rotate_left; go_simp; with_reducible rfl; simp only [Act.put, lA, lB, lC])
          refine wpEarly_nil (hT.out _ _ ?_)
          intro G vw28 hg hf
          simp only [puts, Act.put, lA, lB, lC, lD, lE, ↓reduceIte, Nat.reduceEqDiff]
          have HG := Lib.hid (HF.out.gr (HG0.out.trans hg))
          clear hT T HF hg hf HG0 BX18 lx5 lx3 lx4
          go_wp2
          refine hK.out _ _ ?_; clear hK K
          show Code.wp _ _ _ _ _
          have HF := HG; clear HG
          by_cases ha0 : a = 0
          · have HAZ := Lib.hid ha0
            have HDT : Hid (d = 0) := Lib.hid (HDZ.out.2 (.inl ha0))
            clear ha0
            have HB := HPb HF
            have hd1 : 0 ≤ d := by omega
            have hdz : (d == 0) = true := by have h9 := HDT.out; simp [h9]
            obtain ⟨u19, HZ19⟩ : ∃ z, Hid ((a) + (b) = z) := ⟨_, Lib.hid rfl⟩
            have su19 : sz (u19) ≤ 9 := by rw [← HZ19.out]; have := sz_add (a) (b); omega
            have hgg : (gg == gg) = true := by simp
            have lx5 := HF.out.c 0 rfl
            have lx3 := (BX3.out.gr HF.out.1).cells
            have lx4 := (BX4.out.gr HF.out.1).cells
            refine kS fun K hK => ?_
            refine pd 35 [(true, 0), (true, 1), (true, 2), (true, 3), (true, 4), (true, 5), (true, 6), (true, 7), (true, 8), (true, 9), (true, 10), (true, 11), (true, 12), (true, 13), (true, 14), (true, 15), (true, 16), (true, 17), (true, 18), (true, 19), (true, 20), (true, 21), (true, 22), (true, 24), (true, 23), (true, 25), (true, 26), (true, 27), (true, 28), (true, 29), (true, 30), (true, 31), (true, 32), (true, 33), (true, 34)] fun T hT => ?_
            iterate 10 refine tk ?_
            refine ck Tryz.call35 (fun w' hw => fsign_any (a) (0) _ (by have e9 : (a) = (0 : Rat) := (by exact HAZ.out); exact sgQ_zero' e9)) ?_
            iterate 2 refine tk ?_
            iterate 3 refine sk ?_
            iterate 8 refine tk ?_
            refine ck Tryz.call30 (fun w' hw => fadd_any (a) (b) (u19) _ HZ19.out om om) ?_
            refine ck Tryz.call38 (fun w' hw => fcmp_any (u19) (su) (gg) _ (by simp only [← HZ19.out, ← HZ18.out, ← HZ17.out, ← HZ16.out]; exact HGG.out) om om) ?_
            iterate 7 refine tk ?_
            refine ck Tryz.call22 (fun w' hw => works5_any _ (Lib.hid (HT.out.gr (Gr.trans HB.out hw)))) ?_
            refine tk ?_
            refine nlD hT HF fun vw29 HG => ?_
            clear hT T HF lx5 lx3 lx4 HB
            go_wp2
            refine hK.out _ _ ?_; clear hK K
            show Code.wp _ _ _ _ _
            refine fH ((HG.out).er 0) fun Wx28 HF => ?_
            clear HG
            clear hd1 hdz hgg
            refine wp_ret ?_
            try simp only [Exit.then, Exit.inBlock]
            exact bodyPost_ret (v := .bool true) (by simp [results, Tryz.results8, go_sem]) rfl ⟨rfl, HBW.out.trans (HF.out.1.mono HBW.out.size)⟩
          · obtain ⟨sa, HSA⟩ : ∃ z, Hid (sgQ a = z) := ⟨_, Lib.hid rfl⟩
            obtain ⟨sb, HSB⟩ : ∃ z, Hid (sgQ b = z) := ⟨_, Lib.hid rfl⟩
            have hsan : ¬ sa = 0 := by rw [← HSA.out]; exact sgQ_ne ha0
            obtain ⟨bz, HBZ⟩ : ∃ z, Hid ((sb == 0) = z) := ⟨_, Lib.hid rfl⟩
            have HBD : Hid ((d == 0) = bz) := Lib.hid (by
              rw [← HBZ.out, ← HSB.out]
              have h9 := HDZ.out
              by_cases hb9 : b = 0
              · rw [h9.2 (.inr hb9), hb9]; rfl
              · have e1 : ¬ d = 0 := fun e => by rcases h9.1 e with h | h; exact ha0 h; exact hb9 h
                have e2 := sgQ_ne hb9
                have e3 : (d == 0) = false := by simpa using e1
                have e4 : (sgQ b == 0) = false := by simpa using e2
                rw [e3, e4])
            clear ha0
            have HB := HPb HF
            have hd1 : 0 ≤ d := by omega
            have hdz : (d == 0) = bz := HBD.out
            have hsz : (sa == 0) = false := by simpa using hsan
            have hsbz : (sb == 0) = bz := HBZ.out
            have hbb : (bz == bz) = true := by simp
            obtain ⟨u19, HZ19⟩ : ∃ z, Hid ((a) + (b) = z) := ⟨_, Lib.hid rfl⟩
            have su19 : sz (u19) ≤ 9 := by rw [← HZ19.out]; have := sz_add (a) (b); omega
            have hgg : (gg == gg) = true := by simp
            have lx5 := HF.out.c 0 rfl
            have lx3 := (BX3.out.gr HF.out.1).cells
            have lx4 := (BX4.out.gr HF.out.1).cells
            refine kS fun K hK => ?_
            refine pd 35 [(true, 0), (true, 1), (true, 2), (true, 3), (true, 4), (true, 5), (true, 6), (true, 7), (true, 8), (true, 9), (true, 10), (true, 11), (true, 12), (true, 13), (true, 14), (true, 15), (true, 16), (true, 17), (true, 18), (true, 19), (true, 20), (true, 21), (true, 22), (true, 24), (true, 23), (true, 25), (true, 26), (true, 27), (true, 28), (true, 29), (true, 30), (true, 31), (true, 32), (true, 33), (true, 34)] fun T hT => ?_
            iterate 10 refine tk ?_
            refine ck Tryz.call35 (fun w' hw => fsign_any (a) (sa) _ (HSA.out)) ?_
            iterate 3 refine tk ?_
            refine ck Tryz.call35 (fun w' hw => fsign_any (b) (sb) _ (HSB.out)) ?_
            iterate 9 refine tk ?_
            refine ck Tryz.call30 (fun w' hw => fadd_any (a) (b) (u19) _ HZ19.out om om) ?_
            refine ck Tryz.call38 (fun w' hw => fcmp_any (u19) (su) (gg) _ (by simp only [← HZ19.out, ← HZ18.out, ← HZ17.out, ← HZ16.out]; exact HGG.out) om om) ?_
            iterate 7 refine tk ?_
            refine ck Tryz.call22 (fun w' hw => works5_any _ (Lib.hid (HT.out.gr (Gr.trans HB.out hw)))) ?_
            refine tk ?_
            refine nlD hT HF fun vw29 HG => ?_
            clear hT T HF lx5 lx3 lx4 HB
            go_wp2
            refine hK.out _ _ ?_; clear hK K
            show Code.wp _ _ _ _ _
            refine fH ((HG.out).er 0) fun Wx28 HF => ?_
            clear HG
            clear hd1 hdz hsz hsbz hbb hgg
            refine wp_ret ?_
            try simp only [Exit.then, Exit.inBlock]
            exact bodyPost_ret (v := .bool true) (by simp [results, Tryz.results8, go_sem]) rfl ⟨rfl, HBW.out.trans (HF.out.1.mono HBW.out.size)⟩
        · obtain ⟨c5, HC5⟩ : ∃ z, Hid (sgQ (hg - ls) = z) := ⟨_, Lib.hid rfl⟩
          have hc5 : ¬ c5 < 0 := by rw [← HC5.out, ← HHG.out]; exact sgQ_ge0 (ordv_ge HA0.out HB0.out nha nhb nls qha qhb qls (by rw [HOV.out]; decide))
          clear nla nlb nha nhb nls nhs qla qlb qls qha qhb qhs
          have HB := HPb HF
          refine kS fun K hK => ?_
          refine sq 2 [(true, 0), (true, 1)] fun T hT => ?_
          refine tk ?_
          refine ck Tryz.call40 (fun w' hw => fsum_list n f _ su _ (HFS.out.gr (Gr.trans HB.out hw)) (by omega) HSa.out HSU.out) ?_
          refine nlS hT HF fun vw4 HG => ?_
          clear hT T HF HB
          go_wp2
          refine hK.out _ _ ?_; clear hK K
          show Code.wp _ _ _ _ _
          refine fH ((HG.out).al (b := vw4.heap.size) (by first | rfl | simp) (by decide)) fun Wx9 HF => ?_
          clear HG
          generalize vw4.heap.size = gx5 at *
          have HB := HPb HF
          have lx3 := (BX3.out.gr HF.out.1).cells
          have lx4 := (BX4.out.gr HF.out.1).cells
          refine kS fun K hK => ?_
          refine sq 9 [(true, 0), (true, 1), (true, 2), (true, 3), (true, 4), (true, 5), (true, 6), (true, 7), (true, 8)] fun T hT => ?_
          iterate 3 refine tk ?_
          refine ck Tryz.call34 (fun w' hw => zorder (a) (b) su _ n f (1) _ (Lib.hid (HFS.out.gr (Gr.trans HB.out hw))) (by omega) HSa HSU (by omega) om om (HA0.out) (HB0.out) (HS0.out) (HOV.out)) ?_
          iterate 5 refine tk ?_
          refine nlS hT HF fun vw5 HG => ?_
          clear hT T HF lx3 lx4 HB
          go_wp2
          refine hK.out _ _ ?_; clear hK K
          show Code.wp _ _ _ _ _
          have HF := HG; clear HG
          refine wp_seq ?_
          obtain ⟨t5, HT5⟩ : ∃ z, Hid (sgQ (su) = z) := ⟨_, Lib.hid rfl⟩
          have ht5 : 0 ≤ t5 := by rw [← HT5.out]; exact sgQ_nn0 HS0.out
          have hd1 : ¬ (t5 < 0) := by first | exact ok | exact HS0.out | exact HLT.out | exact HLW.out | exact HHG.out | exact Rat.zero_add _ | exact HA0.out | exact HB0.out
          have lx5 := HF.out.c 0 rfl
          refine kS fun K hK => ?_
          refine sq 3 [(true, 0), (true, 1), (true, 2)] fun T hT => ?_
          refine tk ?_
          refine ck Tryz.call35 (fun w' hw => fsign_any (su) (t5) _ HT5.out) ?_
          refine tk ?_
          refine nlS hT HF fun vw6 HG => ?_
          clear hT T HF lx5
          go_wp2
          refine hK.out _ _ ?_; clear hK K
          show Code.wp _ _ _ _ _
          have HF := HG; clear HG
          clear ht5 hd1
          refine wp_cond_false (by rfl) ?_
          refine wp_skip ?_
          show Code.wp _ _ _ _ _
          refine kS fun K hK => ?_
          refine sq 2 [(true, 0), (true, 1)] fun T hT => ?_
          iterate 2 refine tk ?_
          refine nlS hT HF fun vw7 HG => ?_
          clear hT T HF
          go_wp2
          refine hK.out _ _ ?_; clear hK K
          show Code.wp _ _ _ _ _
          refine fH (((HG.out).al (b := vw7.heap.size) (by first | rfl | simp) (by decide)).al (b := vw7.heap.size + 1) (by first | rfl | simp) (by decide)) fun Wx13 HF => ?_
          clear HG
          generalize vw7.heap.size + 1 = gx7 at *
          generalize vw7.heap.size = gx6 at *
          refine wp_seq ?_
          have lx3 := (BX3.out.gr HF.out.1).cells
          have lx4 := (BX4.out.gr HF.out.1).cells
          refine kS fun K hK => ?_
          have HG0 : Hid (Gr Wx13 Wx13) := Lib.hid (Gr.refl _)
          refine sq 5 [(true, 0), (true, 1), (false, 2), (true, 3), (true, 4)] fun T hT => ?_
          iterate 2 refine tk ?_
          refine wpPlan_slice (cs := #[.int .u64 ((lo (Int.natAbs ((a).num)) : Nat) : Int), .string (bg (Int.natAbs ((a).num))), .bool (decide (((a).num) < 0)), .int .u64 ((lo ((a).den - 1) : Nat) : Int), .string (bg ((a).den - 1)), .int .u64 ((lo (Int.natAbs ((b).num)) : Nat) : Int), .string (bg (Int.natAbs ((b).num))), .bool (decide (((b).num) < 0)), .int .u64 ((lo ((b).den - 1) : Nat) : Int), .string (bg ((b).den - 1))]) (E := 36) (n := 2) rfl (by rfl) (fun w' hw => ?_) (fun gx8 vv8 hg0 yx8 bx8 => ?_)
          · go_simp
          have YX8 := Lib.hid (Nat.le_trans HG0.out.size yx8)
          clear yx8
          replace HG0 := Lib.hid (HG0.out.trans hg0)
          have HGS := Lib.hid hg0; clear hg0
          clear HGS
          have BX8 := Lib.hid bx8; clear bx8
          clear lx3; have lx3 := fun w' (h : Gr _ w') => (BX3.out.gr HF.out.1).cells w' (HG0.out.trans h)
          clear lx4; have lx4 := fun w' (h : Gr _ w') => (BX4.out.gr HF.out.1).cells w' (HG0.out.trans h)
          simp only [Act.put, lA, lB, lC]
          iterate 2 refine tk ?_
          refine wpPlan_nil (hT.out _ _ ?_)
          intro vw8 hg
          simp only [puts, Act.put, lA, lB, lC, lD, lE, ↓reduceIte, Nat.reduceEqDiff]
          have HG := Lib.hid (HF.out.grS (HG0.out.trans hg) YX8.out (BX8.out.gr hg) (by decide))
          simp only [List.zip_cons_cons, List.zip_nil_right, List.map_cons, List.map_nil, lF, lG] at HG
          clear hT T HF hg HG0 BX8 lx3 lx4
          clear YX8
          go_wp2
          refine hK.out _ _ ?_; clear hK K
          show Code.wp _ _ _ _ _
          have HF := HG; clear HG
          refine wp_block ?_
          refine wp_loop_rounds 4 ?_
          rw [rounds_succ]
          refine kS fun K hK => ?_
          refine sq 1 [(true, 0)] fun T hT => ?_
          refine tk ?_
          refine nlS hT HF fun vw9 HG => ?_
          clear hT T HF
          go_wp2
          refine hK.out _ _ ?_; clear hK K
          show Code.wp _ _ _ _ _
          have HF := HG; clear HG
          refine wp_seq ?_
          refine wp_cond_true (by rfl) ?_
          refine wp_skip ?_
          show Code.wp _ _ _ _ _
          refine wp_seq ?_
          refine wp_block ?_
          have lx8 := HF.out.c 3 rfl
          refine kS fun K hK => ?_
          refine sq 2 [(true, 0), (true, 1)] fun T hT => ?_
          iterate 2 refine tk ?_
          refine nlS hT HF fun vw10 HG => ?_
          clear hT T HF lx8
          go_wp2
          refine hK.out _ _ ?_; clear hK K
          show Code.wp _ _ _ _ _
          refine fH ((HG.out).al (b := vw10.heap.size) (by first | rfl | simp) (by decide)) fun Wx16 HF => ?_
          clear HG
          generalize vw10.heap.size = gx9 at *
          have HZ6 : Hid (rlo (a) 80 = la) := Lib.hid (HLA.out)
          have su6 : sz (la) ≤ 14 := by have e := HZ6.out; first | omega | (rw [← e]; exact Nat.le_trans (sz_rlo (by omega) om) (by omega))
          have lx9 := HF.out.c 4 rfl
          refine kS fun K hK => ?_
          refine sq 5 [(true, 0), (true, 1), (true, 2), (true, 3), (true, 4)] fun T hT => ?_
          refine tk ?_
          refine ck Tryz.call23 (fun w' hw => rBelow_ok (a) (la) 80 _ (Lib.hid (by first | exact ok | exact HS0.out | exact HLT.out | exact HLW.out | exact HHG.out | exact Rat.zero_add _ | exact HA0.out | exact HB0.out)) (Lib.hid HZ6.out) (by omega) om) ?_
          iterate 3 refine tk ?_
          refine nlS hT HF fun vw11 HG => ?_
          clear hT T HF lx9
          go_wp2
          refine hK.out _ _ ?_; clear hK K
          show Code.wp _ _ _ _ _
          refine fH ((HG.out).al (b := vw11.heap.size) (by first | rfl | simp) (by decide)) fun Wx17 HF => ?_
          clear HG
          generalize vw11.heap.size = gx10 at *
          have HZ7 : Hid (rhi (a) 80 = ha) := Lib.hid (HHA.out)
          have su7 : sz (ha) ≤ 14 := by have e := HZ7.out; first | omega | (rw [← e]; exact Nat.le_trans (sz_rhi (by omega) om) (by omega))
          have lx9 := HF.out.c 4 rfl
          refine kS fun K hK => ?_
          refine sq 5 [(true, 0), (true, 1), (true, 2), (true, 3), (true, 4)] fun T hT => ?_
          refine tk ?_
          refine ck Tryz.call25 (fun w' hw => rAbove_ok (a) (ha) 80 _ (Lib.hid (by first | exact ok | exact HS0.out | exact HLT.out | exact HLW.out | exact HHG.out | exact Rat.zero_add _ | exact HA0.out | exact HB0.out)) (Lib.hid HZ7.out) (by omega) om) ?_
          iterate 3 refine tk ?_
          refine nlS hT HF fun vw12 HG => ?_
          clear hT T HF lx9
          go_wp2
          refine hK.out _ _ ?_; clear hK K
          show Code.wp _ _ _ _ _
          refine fH ((HG.out).al (b := vw12.heap.size) (by first | rfl | simp) (by decide)) fun Wx18 HF => ?_
          clear HG
          generalize vw12.heap.size = gx11 at *
          have HZ8 : Hid ((0 : Rat) + (la) = la) := Lib.hid (by first | exact ok | exact HS0.out | exact HLT.out | exact HLW.out | exact HHG.out | exact Rat.zero_add _ | exact HA0.out | exact HB0.out)
          have su8 : sz (la) ≤ 16 := by have e := HZ8.out; first | omega | (rw [← e]; have := sz_add (0 : Rat) (la); omega)
          have lx6 := HF.out.c 1 rfl
          have lx10 := HF.out.c 5 rfl
          refine kS fun K hK => ?_
          refine sq 3 [(true, 0), (true, 1), (true, 2)] fun T hT => ?_
          iterate 2 refine tk ?_
          refine ck Tryz.call30 (fun w' hw => fadd_any (0 : Rat) (la) (la) _ HZ8.out om om) ?_
          refine nlS hT HF fun vw13 HG => ?_
          clear hT T HF lx6 lx10
          have lx6 := HG.out.c 1 rfl; have fx6 := HG.out.f 1 rfl
          have r0 := Gr.refl vw13
          go_wp2
          refine hK.out _ _ ?_; clear hK K
          show Code.wp _ _ _ _ _
          clear r0 lx6 fx6
          refine fH ((((HG.out).put2 1 0 rfl).put2 1 2 rfl).put 1 4 _ rfl) fun Wx19 HF => ?_
          clear HG
          have HZ9 : Hid ((0 : Rat) + (ha) = ha) := Lib.hid (by first | exact ok | exact HS0.out | exact HLT.out | exact HLW.out | exact HHG.out | exact Rat.zero_add _ | exact HA0.out | exact HB0.out)
          have su9 : sz (ha) ≤ 16 := by have e := HZ9.out; first | omega | (rw [← e]; have := sz_add (0 : Rat) (ha); omega)
          have lx7 := HF.out.c 2 rfl
          have lx11 := HF.out.c 6 rfl
          refine kL fun K hK => ?_
          refine sq 3 [(true, 0), (true, 1), (true, 2)] fun T hT => ?_
          iterate 2 refine tk ?_
          refine ck Tryz.call30 (fun w' hw => fadd_any (0 : Rat) (ha) (ha) _ HZ9.out om om) ?_
          refine nlS hT HF fun vw14 HG => ?_
          clear hT T HF lx7 lx11
          have lx7 := HG.out.c 2 rfl; have fx7 := HG.out.f 2 rfl
          have r0 := Gr.refl vw14
          go_wp2
          refine hK.out _ _ ?_; clear hK K
          show Code.wp _ _ _ _ _
          clear r0 lx7 fx7
          refine fH ((((HG.out).put2 2 0 rfl).put2 2 2 rfl).put 2 4 _ rfl) fun Wx20 HF => ?_
          clear HG
          refine kL fun K hK => ?_
          refine sq 2 [(true, 0), (true, 1)] fun T hT => ?_
          iterate 2 refine tk ?_
          refine nlS hT HF fun vw15 HG => ?_
          clear hT T HF
          go_wp2
          refine hK.out _ _ ?_; clear hK K
          show Code.rounds _ _ _ _ _ _
          rw [rounds_succ]
          have HF := HG; clear HG
          refine kS fun K hK => ?_
          refine sq 1 [(true, 0)] fun T hT => ?_
          refine tk ?_
          refine nlS hT HF fun vw16 HG => ?_
          clear hT T HF
          go_wp2
          refine hK.out _ _ ?_; clear hK K
          show Code.wp _ _ _ _ _
          have HF := HG; clear HG
          refine wp_seq ?_
          refine wp_cond_true (by rfl) ?_
          refine wp_skip ?_
          show Code.wp _ _ _ _ _
          refine wp_seq ?_
          refine wp_block ?_
          have lx8 := HF.out.c 3 rfl
          refine kS fun K hK => ?_
          refine sq 2 [(true, 0), (true, 1)] fun T hT => ?_
          iterate 2 refine tk ?_
          refine nlS hT HF fun vw17 HG => ?_
          clear hT T HF lx8
          go_wp2
          refine hK.out _ _ ?_; clear hK K
          show Code.wp _ _ _ _ _
          refine fH (((HG.out).al (b := vw17.heap.size) (by first | rfl | simp) (by decide)).er 4) fun Wx16 HF => ?_
          clear HG
          generalize vw17.heap.size = gx12 at *
          have HZ10 : Hid (rlo (b) 80 = lb) := Lib.hid (HLB.out)
          have su10 : sz (lb) ≤ 14 := by have e := HZ10.out; first | omega | (rw [← e]; exact Nat.le_trans (sz_rlo (by omega) om) (by omega))
          have lx12 := HF.out.c 6 rfl
          refine kS fun K hK => ?_
          refine sq 5 [(true, 0), (true, 1), (true, 2), (true, 3), (true, 4)] fun T hT => ?_
          refine tk ?_
          refine ck Tryz.call23 (fun w' hw => rBelow_ok (b) (lb) 80 _ (Lib.hid (by first | exact ok | exact HS0.out | exact HLT.out | exact HLW.out | exact HHG.out | exact Rat.zero_add _ | exact HA0.out | exact HB0.out)) (Lib.hid HZ10.out) (by omega) om) ?_
          iterate 3 refine tk ?_
          refine nlS hT HF fun vw18 HG => ?_
          clear hT T HF lx12
          go_wp2
          refine hK.out _ _ ?_; clear hK K
          show Code.wp _ _ _ _ _
          refine fH (((HG.out).al (b := vw18.heap.size) (by first | rfl | simp) (by decide)).er 4) fun Wx17 HF => ?_
          clear HG
          generalize vw18.heap.size = gx13 at *
          have HB := HPb HF
          have HZ11 : Hid (rhi (b) 80 = hb) := Lib.hid (HHB.out)
          have su11 : sz (hb) ≤ 14 := by have e := HZ11.out; first | omega | (rw [← e]; exact Nat.le_trans (sz_rhi (by omega) om) (by omega))
          have lx12 := HF.out.c 5 rfl
          refine kS fun K hK => ?_
          refine sq 5 [(true, 0), (true, 1), (true, 2), (true, 3), (true, 4)] fun T hT => ?_
          refine tk ?_
          refine ck Tryz.call25 (fun w' hw => rAbove_ok (b) (hb) 80 _ (Lib.hid (by first | exact ok | exact HS0.out | exact HLT.out | exact HLW.out | exact HHG.out | exact Rat.zero_add _ | exact HA0.out | exact HB0.out)) (Lib.hid HZ11.out) (by omega) om) ?_
          iterate 3 refine tk ?_
          refine nlS hT HF fun vw19 HG => ?_
          clear hT T HF lx12 HB
          go_wp2
          refine hK.out _ _ ?_; clear hK K
          show Code.wp _ _ _ _ _
          refine fH (((HG.out).al (b := vw19.heap.size) (by first | rfl | simp) (by decide)).er 4) fun Wx18 HF => ?_
          clear HG
          generalize vw19.heap.size = gx14 at *
          have HZ12 : Hid ((la) + (lb) = lw) := Lib.hid (by first | exact ok | exact HS0.out | exact HLT.out | exact HLW.out | exact HHG.out | exact Rat.zero_add _ | exact HA0.out | exact HB0.out)
          have su12 : sz (lw) ≤ 31 := by have e := HZ12.out; first | omega | (rw [← e]; have := sz_add (la) (lb); omega)
          have lx6 := HF.out.c 1 rfl
          have lx13 := HF.out.c 5 rfl
          refine kS fun K hK => ?_
          refine sq 3 [(true, 0), (true, 1), (true, 2)] fun T hT => ?_
          iterate 2 refine tk ?_
          refine ck Tryz.call30 (fun w' hw => fadd_any (la) (lb) (lw) _ HZ12.out om om) ?_
          refine nlS hT HF fun vw20 HG => ?_
          clear hT T HF lx6 lx13
          have lx6 := HG.out.c 1 rfl; have fx6 := HG.out.f 1 rfl
          have r0 := Gr.refl vw20
          go_wp2
          refine hK.out _ _ ?_; clear hK K
          show Code.wp _ _ _ _ _
          clear r0 lx6 fx6
          refine fH ((((HG.out).put2 1 0 rfl).put2 1 2 rfl).put 1 4 _ rfl) fun Wx19 HF => ?_
          clear HG
          have HZ13 : Hid ((ha) + (hb) = hg) := Lib.hid (by first | exact ok | exact HS0.out | exact HLT.out | exact HLW.out | exact HHG.out | exact Rat.zero_add _ | exact HA0.out | exact HB0.out)
          have su13 : sz (hg) ≤ 31 := by have e := HZ13.out; first | omega | (rw [← e]; have := sz_add (ha) (hb); omega)
          have lx7 := HF.out.c 2 rfl
          have lx14 := HF.out.c 6 rfl
          refine kL fun K hK => ?_
          refine sq 3 [(true, 0), (true, 1), (true, 2)] fun T hT => ?_
          iterate 2 refine tk ?_
          refine ck Tryz.call30 (fun w' hw => fadd_any (ha) (hb) (hg) _ HZ13.out om om) ?_
          refine nlS hT HF fun vw21 HG => ?_
          clear hT T HF lx7 lx14
          have lx7 := HG.out.c 2 rfl; have fx7 := HG.out.f 2 rfl
          have r0 := Gr.refl vw21
          go_wp2
          refine hK.out _ _ ?_; clear hK K
          show Code.wp _ _ _ _ _
          clear r0 lx7 fx7
          refine fH ((((HG.out).put2 2 0 rfl).put2 2 2 rfl).put 2 4 _ rfl) fun Wx20 HF => ?_
          clear HG
          refine kL fun K hK => ?_
          refine sq 2 [(true, 0), (true, 1)] fun T hT => ?_
          iterate 2 refine tk ?_
          refine nlS hT HF fun vw22 HG => ?_
          clear hT T HF
          go_wp2
          refine hK.out _ _ ?_; clear hK K
          show Code.rounds _ _ _ _ _ _
          rw [rounds_succ]
          have HF := HG; clear HG
          refine kS fun K hK => ?_
          refine sq 1 [(true, 0)] fun T hT => ?_
          refine tk ?_
          refine nlS hT HF fun vw23 HG => ?_
          clear hT T HF
          go_wp2
          refine hK.out _ _ ?_; clear hK K
          show Code.wp _ _ _ _ _
          have HF := HG; clear HG
          refine wp_seq ?_
          refine wp_cond_false (by rfl) ?_
          refine wp_exit ?_
          show Code.wp _ _ _ _ _
          have HZ14 : Hid (rlo (su) 80 = ls) := Lib.hid (HLS.out)
          have su14 : sz (ls) ≤ 111 := by have e := HZ14.out; first | omega | (rw [← e]; exact Nat.le_trans (sz_rlo (by omega) om) (by omega))
          have lx5 := HF.out.c 0 rfl
          refine kS fun K hK => ?_
          refine sq 5 [(true, 0), (true, 1), (true, 2), (true, 3), (true, 4)] fun T hT => ?_
          refine tk ?_
          refine ck Tryz.call23 (fun w' hw => rBelow_ok (su) (ls) 80 _ (Lib.hid (by first | exact ok | exact HS0.out | exact HLT.out | exact HLW.out | exact HHG.out | exact Rat.zero_add _ | exact HA0.out | exact HB0.out)) (Lib.hid HZ14.out) (by omega) om) ?_
          iterate 3 refine tk ?_
          refine nlS hT HF fun vw24 HG => ?_
          clear hT T HF lx5
          go_wp2
          refine hK.out _ _ ?_; clear hK K
          show Code.wp _ _ _ _ _
          refine fH ((((((HG.out).al (b := vw24.heap.size) (by first | rfl | simp) (by decide)).er 6).er 5).er 4).er 3) fun Wx22 HF => ?_
          clear HG
          generalize vw24.heap.size = gx15 at *
          have HZ15 : Hid (rhi (su) 80 = hs) := Lib.hid (HHS.out)
          have su15 : sz (hs) ≤ 111 := by have e := HZ15.out; first | omega | (rw [← e]; exact Nat.le_trans (sz_rhi (by omega) om) (by omega))
          have lx5 := HF.out.c 0 rfl
          refine kS fun K hK => ?_
          refine sq 5 [(true, 0), (true, 1), (true, 2), (true, 3), (true, 4)] fun T hT => ?_
          refine tk ?_
          refine ck Tryz.call25 (fun w' hw => rAbove_ok (su) (hs) 80 _ (Lib.hid (by first | exact ok | exact HS0.out | exact HLT.out | exact HLW.out | exact HHG.out | exact Rat.zero_add _ | exact HA0.out | exact HB0.out)) (Lib.hid HZ15.out) (by omega) om) ?_
          iterate 3 refine tk ?_
          refine nlS hT HF fun vw25 HG => ?_
          clear hT T HF lx5
          go_wp2
          refine hK.out _ _ ?_; clear hK K
          show Code.wp _ _ _ _ _
          refine fH ((HG.out).al (b := vw25.heap.size) (by first | rfl | simp) (by decide)) fun Wx23 HF => ?_
          clear HG
          generalize vw25.heap.size = gx16 at *
          refine wp_seq ?_
          have hcc5 : ¬ c5 < 0 := by omega
          have lx6 := HF.out.c 1 rfl
          have lx7 := HF.out.c 2 rfl
          have lx15 := HF.out.c 3 rfl
          have lx16 := HF.out.c 4 rfl
          refine kS fun K hK => ?_
          refine sq 43 [(true, 0), (true, 1), (true, 2), (true, 3), (true, 4), (true, 5), (true, 6), (true, 7), (true, 8), (true, 9), (true, 10), (true, 11), (true, 12), (true, 13), (true, 14), (true, 15), (true, 16), (true, 17), (true, 18), (true, 19), (true, 20), (true, 21), (true, 22), (true, 23), (true, 24), (true, 25), (true, 26), (true, 27), (true, 28), (true, 29), (true, 30), (true, 31), (true, 32), (true, 33), (true, 34), (true, 35), (true, 36), (true, 37), (true, 38), (true, 39), (true, 40), (true, 41), (true, 42)] fun T hT => ?_
          iterate 6 refine tk ?_
          iterate 4 refine sk ?_
          iterate 2 refine tk ?_
          iterate 3 refine sk ?_
          iterate 8 refine tk ?_
          refine ck Tryz.call38 (fun w' hw => fcmp_any (hg) (ls) (c5) _ (HC5.out) om om) ?_
          iterate 7 refine tk ?_
          iterate 10 refine sk ?_
          iterate 2 refine tk ?_
          refine nlS hT HF fun vw26 HG => ?_
          clear hT T HF lx6 lx7 lx15 lx16
          go_wp2
          refine hK.out _ _ ?_; clear hK K
          show Code.wp _ _ _ _ _
          refine fH (((((HG.out).er 4).er 3).er 2).er 1) fun Wx24 HF => ?_
          clear HG
          clear hcc5
          refine wp_cond_false (by rfl) ?_
          refine wp_skip ?_
          show Code.wp _ _ _ _ _
          have lx3 := (BX3.out.gr HF.out.1).cells
          have lx4 := (BX4.out.gr HF.out.1).cells
          refine kS fun K hK => ?_
          have HG0 : Hid (Gr Wx24 Wx24) := Lib.hid (Gr.refl _)
          refine sq 11 [(true, 0), (true, 1), (true, 2), (true, 3), (false, 4), (true, 5), (true, 6), (true, 7), (true, 8), (true, 9), (true, 10)] fun T hT => ?_
          iterate 4 refine tk ?_
          refine wpPlan_slice (cs := #[.int .u64 ((lo (Int.natAbs ((a).num)) : Nat) : Int), .string (bg (Int.natAbs ((a).num))), .bool (decide (((a).num) < 0)), .int .u64 ((lo ((a).den - 1) : Nat) : Int), .string (bg ((a).den - 1)), .int .u64 ((lo (Int.natAbs ((b).num)) : Nat) : Int), .string (bg (Int.natAbs ((b).num))), .bool (decide (((b).num) < 0)), .int .u64 ((lo ((b).den - 1) : Nat) : Int), .string (bg ((b).den - 1))]) (E := 36) (n := 2) rfl (by rfl) (fun w' hw => ?_) (fun gx17 vv17 hg0 yx17 bx17 => ?_)
          · go_simp
          clear yx17
          replace HG0 := Lib.hid (HG0.out.trans hg0)
          have HGS := Lib.hid hg0; clear hg0
          clear HGS
          have BX17 := Lib.hid bx17; clear bx17
          clear lx3; have lx3 := fun w' (h : Gr _ w') => (BX3.out.gr HF.out.1).cells w' (HG0.out.trans h)
          clear lx4; have lx4 := fun w' (h : Gr _ w') => (BX4.out.gr HF.out.1).cells w' (HG0.out.trans h)
          simp only [Act.put, lA, lB, lC]
          refine ck Tryz.call34 (fun w' hw => zorder (a) (b) ((a) + (b)) _ 2 (f2_ (a) (b)) (d) _ (Lib.hid (fs2 BX17.out hw)) (by omega) (Lib.hid (fsz2 om om)) (Lib.hid (qsum2 _ _ _ rfl)) (by have := sz_add (a) (b); omega) om om (HA0.out) (HB0.out) (Rat.add_nonneg HA0.out HB0.out) (HD.out)) ?_
          iterate 5 refine tk ?_
          refine wpPlan_nil (hT.out _ _ ?_)
          intro vw27 hg
          simp only [puts, Act.put, lA, lB, lC, lD, lE, ↓reduceIte, Nat.reduceEqDiff]
          have HG := Lib.hid (HF.out.gr (HG0.out.trans hg))
          clear hT T HF hg HG0 BX17 lx3 lx4
          go_wp2
          refine hK.out _ _ ?_; clear hK K
          show Code.wp _ _ _ _ _
          have HF := HG; clear HG
          obtain ⟨u16, HZ16⟩ : ∃ z, Hid ((a) * (a) = z) := ⟨_, Lib.hid rfl⟩
          have su16 : sz (u16) ≤ 8 := by rw [← HZ16.out]; have := sz_mul (a) (a); omega
          obtain ⟨u17, HZ17⟩ : ∃ z, Hid ((b) * (b) = z) := ⟨_, Lib.hid rfl⟩
          have su17 : sz (u17) ≤ 8 := by rw [← HZ17.out]; have := sz_mul (b) (b); omega
          obtain ⟨u18, HZ18⟩ : ∃ z, Hid ((su) * (su) = z) := ⟨_, Lib.hid rfl⟩
          have su18 : sz (u18) ≤ 202 := by rw [← HZ18.out]; have := sz_mul (su) (su); omega
          have lx5 := HF.out.c 0 rfl
          have lx3 := (BX3.out.gr HF.out.1).cells
          have lx4 := (BX4.out.gr HF.out.1).cells
          refine kS fun K hK => ?_
          have HG0 : Hid (Gr vw27 vw27) := Lib.hid (Gr.refl _)
          refine wp_region_early 12 [] [] (fun _ => 0) (fun _ => .cells #[] 0) (fun i => (1, #[.int .u64 ((lo (Int.natAbs ((u18).num)) : Nat) : Int), .string (bg (Int.natAbs ((u18).num))), .bool (decide (((u18).num) < 0)), .int .u64 ((lo ((u18).den - 1) : Nat) : Int), .string (bg ((u18).den - 1))], 36)) [(0, 0), (0, 2), (0, 4), (0, 1), (0, 3), (0, 5), (1, 6), (2, 6), (0, 7), (0, 8), (0, 9), (0, 10), (0, 11)] (by kernel_rfl) (by kernel_rfl) (fun i hi => by cases hi) (fun i hi => by cases hi) (fun _ _ _ _ _ h => h) (fun T hT => ?_)
          iterate 3 (refine wpEarly_takeL (v := ?_) rfl (by rfl) (fun w' hw => ?_) ?_; rotate_left; go_simp; with_reducible rfl; simp only [Act.put, lA, lB, lC])
          refine wpEarly_callL rfl (by rfl) Tryz.call37 (fun w' hw => fsquare_any (a) (u16) _ (Lib.hid HZ16.out) om) (by rfl) ?_
          simp only [Act.put, lA, lB, lC]
          refine wpEarly_callL rfl (by rfl) Tryz.call37 (fun w' hw => fsquare_any (b) (u17) _ (Lib.hid HZ17.out) om) (by rfl) ?_
          simp only [Act.put, lA, lB, lC]
          refine wpEarly_callL rfl (by rfl) Tryz.call37 (fun w' hw => fsquare_any (su) (u18) _ (Lib.hid HZ18.out) om) (by rfl) ?_
          simp only [Act.put, lA, lB, lC]
          refine wpEarly_mk rfl (by rfl) (fun w' => ?_) ?_
          · go_simp
          refine wpEarly_use rfl (by rfl) (fun gx18 vv18 hg0 yx18 bx18 => ?_)
          clear yx18
          replace HG0 := Lib.hid (HG0.out.trans hg0)
          have HGS := Lib.hid hg0; clear hg0
          clear HGS
          have BX18 := Lib.hid bx18; clear bx18
          clear lx5; have lx5 := fun w' (h : Gr _ w') => HF.out.c 0 rfl w' (HG0.out.trans h)
          clear lx3; have lx3 := fun w' (h : Gr _ w') => (BX3.out.gr HF.out.1).cells w' (HG0.out.trans h)
          clear lx4; have lx4 := fun w' (h : Gr _ w') => (BX4.out.gr HF.out.1).cells w' (HG0.out.trans h)
          simp only [Act.put, lA, lB, lC]
          refine wpEarly_callL rfl (by rfl) Tryz.call34 (fun w' hw => zorder (u16) (u17) (u18) _ 1 (f1_ (u18)) (gg) _ (Lib.hid (fs1 BX18.out hw)) (by omega) (Lib.hid (fsz1 om)) (Lib.hid (qsum1 _)) om om om (by simp only [← HZ18.out, ← HZ17.out, ← HZ16.out]; exact sq_nn a) (by simp only [← HZ18.out, ← HZ17.out, ← HZ16.out]; exact sq_nn b) (by simp only [← HZ18.out, ← HZ17.out, ← HZ16.out]; exact sq_nn su) (by simp only [← HZ18.out, ← HZ17.out, ← HZ16.out]; exact HSQ.out)) (by rfl) ?_
          simp only [Act.put, lA, lB, lC]
          iterate 4 (refine wpEarly_takeL (v := ?_) rfl (by rfl) (fun w' hw => ?_) ?_; rotate_left; go_simp; with_reducible rfl; simp only [Act.put, lA, lB, lC])
          refine wpEarly_nil (hT.out _ _ ?_)
          intro G vw28 hg hf
          simp only [puts, Act.put, lA, lB, lC, lD, lE, ↓reduceIte, Nat.reduceEqDiff]
          have HG := Lib.hid (HF.out.gr (HG0.out.trans hg))
          clear hT T HF hg hf HG0 BX18 lx5 lx3 lx4
          go_wp2
          refine hK.out _ _ ?_; clear hK K
          show Code.wp _ _ _ _ _
          have HF := HG; clear HG
          by_cases ha0 : a = 0
          · have HAZ := Lib.hid ha0
            have HDT : Hid (d = 0) := Lib.hid (HDZ.out.2 (.inl ha0))
            clear ha0
            have HB := HPb HF
            have hd1 : 0 ≤ d := by omega
            have hdz : (d == 0) = true := by have h9 := HDT.out; simp [h9]
            obtain ⟨u19, HZ19⟩ : ∃ z, Hid ((a) + (b) = z) := ⟨_, Lib.hid rfl⟩
            have su19 : sz (u19) ≤ 9 := by rw [← HZ19.out]; have := sz_add (a) (b); omega
            have hgg : (gg == gg) = true := by simp
            have lx5 := HF.out.c 0 rfl
            have lx3 := (BX3.out.gr HF.out.1).cells
            have lx4 := (BX4.out.gr HF.out.1).cells
            refine kS fun K hK => ?_
            refine pd 35 [(true, 0), (true, 1), (true, 2), (true, 3), (true, 4), (true, 5), (true, 6), (true, 7), (true, 8), (true, 9), (true, 10), (true, 11), (true, 12), (true, 13), (true, 14), (true, 15), (true, 16), (true, 17), (true, 18), (true, 19), (true, 20), (true, 21), (true, 22), (true, 24), (true, 23), (true, 25), (true, 26), (true, 27), (true, 28), (true, 29), (true, 30), (true, 31), (true, 32), (true, 33), (true, 34)] fun T hT => ?_
            iterate 10 refine tk ?_
            refine ck Tryz.call35 (fun w' hw => fsign_any (a) (0) _ (by have e9 : (a) = (0 : Rat) := (by exact HAZ.out); exact sgQ_zero' e9)) ?_
            iterate 2 refine tk ?_
            iterate 3 refine sk ?_
            iterate 8 refine tk ?_
            refine ck Tryz.call30 (fun w' hw => fadd_any (a) (b) (u19) _ HZ19.out om om) ?_
            refine ck Tryz.call38 (fun w' hw => fcmp_any (u19) (su) (gg) _ (by simp only [← HZ19.out, ← HZ18.out, ← HZ17.out, ← HZ16.out]; exact HGG.out) om om) ?_
            iterate 7 refine tk ?_
            refine ck Tryz.call22 (fun w' hw => works5_any _ (Lib.hid (HT.out.gr (Gr.trans HB.out hw)))) ?_
            refine tk ?_
            refine nlD hT HF fun vw29 HG => ?_
            clear hT T HF lx5 lx3 lx4 HB
            go_wp2
            refine hK.out _ _ ?_; clear hK K
            show Code.wp _ _ _ _ _
            refine fH ((HG.out).er 0) fun Wx28 HF => ?_
            clear HG
            clear hd1 hdz hgg
            refine wp_ret ?_
            try simp only [Exit.then, Exit.inBlock]
            exact bodyPost_ret (v := .bool true) (by simp [results, Tryz.results8, go_sem]) rfl ⟨rfl, HBW.out.trans (HF.out.1.mono HBW.out.size)⟩
          · obtain ⟨sa, HSA⟩ : ∃ z, Hid (sgQ a = z) := ⟨_, Lib.hid rfl⟩
            obtain ⟨sb, HSB⟩ : ∃ z, Hid (sgQ b = z) := ⟨_, Lib.hid rfl⟩
            have hsan : ¬ sa = 0 := by rw [← HSA.out]; exact sgQ_ne ha0
            obtain ⟨bz, HBZ⟩ : ∃ z, Hid ((sb == 0) = z) := ⟨_, Lib.hid rfl⟩
            have HBD : Hid ((d == 0) = bz) := Lib.hid (by
              rw [← HBZ.out, ← HSB.out]
              have h9 := HDZ.out
              by_cases hb9 : b = 0
              · rw [h9.2 (.inr hb9), hb9]; rfl
              · have e1 : ¬ d = 0 := fun e => by rcases h9.1 e with h | h; exact ha0 h; exact hb9 h
                have e2 := sgQ_ne hb9
                have e3 : (d == 0) = false := by simpa using e1
                have e4 : (sgQ b == 0) = false := by simpa using e2
                rw [e3, e4])
            clear ha0
            have HB := HPb HF
            have hd1 : 0 ≤ d := by omega
            have hdz : (d == 0) = bz := HBD.out
            have hsz : (sa == 0) = false := by simpa using hsan
            have hsbz : (sb == 0) = bz := HBZ.out
            have hbb : (bz == bz) = true := by simp
            obtain ⟨u19, HZ19⟩ : ∃ z, Hid ((a) + (b) = z) := ⟨_, Lib.hid rfl⟩
            have su19 : sz (u19) ≤ 9 := by rw [← HZ19.out]; have := sz_add (a) (b); omega
            have hgg : (gg == gg) = true := by simp
            have lx5 := HF.out.c 0 rfl
            have lx3 := (BX3.out.gr HF.out.1).cells
            have lx4 := (BX4.out.gr HF.out.1).cells
            refine kS fun K hK => ?_
            refine pd 35 [(true, 0), (true, 1), (true, 2), (true, 3), (true, 4), (true, 5), (true, 6), (true, 7), (true, 8), (true, 9), (true, 10), (true, 11), (true, 12), (true, 13), (true, 14), (true, 15), (true, 16), (true, 17), (true, 18), (true, 19), (true, 20), (true, 21), (true, 22), (true, 24), (true, 23), (true, 25), (true, 26), (true, 27), (true, 28), (true, 29), (true, 30), (true, 31), (true, 32), (true, 33), (true, 34)] fun T hT => ?_
            iterate 10 refine tk ?_
            refine ck Tryz.call35 (fun w' hw => fsign_any (a) (sa) _ (HSA.out)) ?_
            iterate 3 refine tk ?_
            refine ck Tryz.call35 (fun w' hw => fsign_any (b) (sb) _ (HSB.out)) ?_
            iterate 9 refine tk ?_
            refine ck Tryz.call30 (fun w' hw => fadd_any (a) (b) (u19) _ HZ19.out om om) ?_
            refine ck Tryz.call38 (fun w' hw => fcmp_any (u19) (su) (gg) _ (by simp only [← HZ19.out, ← HZ18.out, ← HZ17.out, ← HZ16.out]; exact HGG.out) om om) ?_
            iterate 7 refine tk ?_
            refine ck Tryz.call22 (fun w' hw => works5_any _ (Lib.hid (HT.out.gr (Gr.trans HB.out hw)))) ?_
            refine tk ?_
            refine nlD hT HF fun vw29 HG => ?_
            clear hT T HF lx5 lx3 lx4 HB
            go_wp2
            refine hK.out _ _ ?_; clear hK K
            show Code.wp _ _ _ _ _
            refine fH ((HG.out).er 0) fun Wx28 HF => ?_
            clear HG
            clear hd1 hdz hsz hsbz hbb hgg
            refine wp_ret ?_
            try simp only [Exit.then, Exit.inBlock]
            exact bodyPost_ret (v := .bool true) (by simp [results, Tryz.results8, go_sem]) rfl ⟨rfl, HBW.out.trans (HF.out.1.mono HBW.out.size)⟩
    · rcases HQ.out with ⟨_, _, _, hz⟩ | ⟨b9, o9, c', hv, hb, hc⟩
      · omega
      injection hv with hv1 _ hv3
      subst hv1 hv3
      have hkn' : k < n := by omega
      obtain ⟨x, HX⟩ : ∃ x, Hid (N k = x) := ⟨_, Lib.hid rfl⟩
      obtain ⟨y, HY⟩ : ∃ x, Hid (D k = x) := ⟨_, Lib.hid rfl⟩
      obtain ⟨q, HQQ⟩ : ∃ q, Hid (qv x y = q) := ⟨_, Lib.hid rfl⟩
      have HXB := HQB.out k hkn'
      rw [HX.out, HY.out] at HXB
      obtain ⟨x1, x2, y1, y2⟩ := HXB
      have HFK : Hid (f k = q) := Lib.hid (by rw [← Hf.out, HX.out, HY.out]; exact HQQ.out)
      have HE0 : Hid (∀ w', Gr w w' → w'.cell? ⟨b9, o9 + k * 2, none⟩ = some (.int .i64 x)) := Lib.hid (fun w' hw => (Below.cell hw (p := ⟨b9, o9 + k * 2, none⟩) hb).trans (by rw [← HX.out]; exact (hc k hkn').1))
      have HE1 : Hid (∀ w', Gr w w' → w'.cell? ⟨b9, o9 + k * 2 + 1, none⟩ = some (.int .u32 y)) := Lib.hid (fun w' hw => (Below.cell hw (p := ⟨b9, o9 + k * 2 + 1, none⟩) hb).trans (by rw [← HY.out]; exact (hc k hkn').2))
      clear hc hb
      have hkl : (k : Int) < (n : Int) := by omega
      refine wp_seq ?_
      refine kS fun K hK => ?_
      go_wp2
      refine hK.out _ _ ?_; clear hK K
      show Code.wp _ _ _ _ _
      refine wp_cond_true (by rfl) ?_
      refine wp_skip ?_
      show Code.wp _ _ _ _ _
      refine wp_seq ?_
      refine wp_block ?_
      refine kL fun K hK => ?_
      have e0 := HE0.out wr HF.out.1
      have e1 := HE1.out wr HF.out.1
      go_wp2_with fail
      refine (qv_any x y q wr HQQ.out x1 x2 y1 y2).mono ?_
      rintro e w1 ⟨rfl, hb1⟩
      have HF1 := Lib.hid (HF.out.gr hb1)
      have HW1 := Lib.hid (own_gr HW.out hb1)
      clear hb1 e0 e1 HF HW
      have HN := Lib.hid (show ∀ j u, [.int .u64 ((lo (Int.natAbs ((q).num)) : Nat) : Int), .string (bg (Int.natAbs ((q).num))), .bool (decide (((q).num) < 0)), .int .u64 ((lo ((q).den - 1) : Nat) : Int), .string (bg ((q).den - 1))][j]? = some u → (w1.alloc (.cells #[.int .u64 ((lo (Int.natAbs ((q).num)) : Nat) : Int), .string (bg (Int.natAbs ((q).num))), .bool (decide (((q).num) < 0)), .int .u64 ((lo ((q).den - 1) : Nat) : Int), .string (bg ((q).den - 1))] 36)).cell? ((⟨w1.heap.size, 0, none⟩ : Addr).add j) = some u from fun j u hj => by
        match j, hj with
        | 0, hj => simp at hj; subst hj; simp [Addr.add, go_sem]
        | 1, hj => simp at hj; subst hj; simp [Addr.add, go_sem]
        | 2, hj => simp at hj; subst hj; simp [Addr.add, go_sem]
        | 3, hj => simp at hj; subst hj; simp [Addr.add, go_sem]
        | 4, hj => simp at hj; subst hj; simp [Addr.add, go_sem])
      have HF2 := Lib.hid (HF1.out.gr (Gr.alloc _ (.cells #[.int .u64 ((lo (Int.natAbs ((q).num)) : Nat) : Int), .string (bg (Int.natAbs ((q).num))), .bool (decide (((q).num) < 0)), .int .u64 ((lo ((q).den - 1) : Nat) : Int), .string (bg ((q).den - 1))] 36)))
      have HW2 := Lib.hid (own_gr HW1.out (Gr.alloc _ (.cells #[.int .u64 ((lo (Int.natAbs ((q).num)) : Nat) : Int), .string (bg (Int.natAbs ((q).num))), .bool (decide (((q).num) < 0)), .int .u64 ((lo ((q).den - 1) : Nat) : Int), .string (bg ((q).den - 1))] 36)))
      clear HF1 HW1
      go_wp2_with (first | (at_builtin; refine apX HF2 HW2 HAP (.tmp 46) (.tmp 52) 82 hi hz0 hz1 hz2 rfl Tryz.underlying82 (m := 1) (c := 1) (ad := ⟨w1.heap.size, 0, none⟩) (news := [.int .u64 ((lo (Int.natAbs ((q).num)) : Nat) : Int), .string (bg (Int.natAbs ((q).num))), .bool (decide (((q).num) < 0)), .int .u64 ((lo ((q).den - 1) : Nat) : Int), .string (bg ((q).den - 1))]) (by unfold maxLen; omega) (by omega) (by intro i v m h; rcases i with _ | _ | i <;> simp at h) (by simp [Act.eval, Act.put]) (by simp [Act.eval, Act.put]) HN rfl ?c1 (by decide) rfl rfl ?_) | fail)
      case c1 => intro u hu; simp at hu; rcases hu with rfl | rfl | rfl | rfl | rfl <;> rfl
      intro u' w3 HF3 HW3 HA3
      clear HF2 HW2 HAP HN
      go_wp2_with fail
      refine hK.out _ _ ?_; clear hK K
      show Code.wp _ _ _ _ _
      have HF := HF3; have HW := HW3; have HAP := HA3; clear HF3 HW3 HA3
      have hwi : IntKind.i64.wrap ((k : Int) + 1) = (k : Int) + 1 := by rw [IntKind.wrap_i64]; omega
      refine kL fun K hK => ?_
      go_wp2
      refine hK.out _ _ ?_; clear hK K
      try simp only [Exit.then, Exit.inBlock]
      clear hwi
      refine hj0_ _ _ ?_
      go_roundg kk
      case measure => omega
      case rel => exact ⟨k + 1, rfl, by omega, fun h => by omega, HF, Lib.hid (by rw [fcs, HFK.out]; exact HW.out), HAP⟩

set_option maxRecDepth 100000 in
set_option maxHeartbeats 4000000 in
theorem order_big (n1 d1 n2 d2 : Int) (v : Value) (n : Nat) (N D : Nat → Int) (w : World) (HQ : Hid (Qs w v n N D)) (hn : 6 < n) (HT : Hid (Tab w)) :
    Calls Tryz.prog 8 #[.agg #[.int .i64 n1, .int .u32 d1], .agg #[.int .i64 n2, .int .u32 d2], v] w fun e w' => e = .returned (.bool true) ∧ Below w.heap.size w w' := by
  obtain ⟨ao, c, rfl⟩ := HQ.out.slice
  have hn' : (6 : Int) < (n : Int) := by omega
  go_enter Tryz.func8, Tryz.ntmps8
  go_wp2_with fail
  refine (works5_any _ (Lib.hid (HT.out.gr (((Gr.refl w).trans (Gr.alloc _ _)).trans (Gr.alloc _ _))))).mono ?_
  rintro e V1 ⟨rfl, hb⟩
  have HGf := Lib.hid ((((Below.refl w.heap.size w).alloc (Nat.le_refl _) _).alloc (by simp) _).trans (hb.mono (by simp; omega)))
  clear hb
  go_wp2_with fail
  exact bodyPost_ret (v := .bool true) (by simp [results, Tryz.results8, go_sem]) rfl ⟨rfl, HGf.out⟩

theorem order_law (n1 d1 n2 d2 : Int) (v : Value) (n : Nat) (N D : Nat → Int) (w : World) (h1_1 : -9223372036854775808 ≤ n1) (h2_1 : n1 ≤ 9223372036854775807) (h3_1 : 0 ≤ d1) (h4_1 : d1 ≤ 4294967295) (h1_2 : -9223372036854775808 ≤ n2) (h2_2 : n2 ≤ 9223372036854775807) (h3_2 : 0 ≤ d2) (h4_2 : d2 ≤ 4294967295) (HQ : Hid (Qs w v n N D)) (HQB : Hid (Qb n N D)) (HT : Hid (Tab w)) :
    Calls Tryz.prog 8 #[.agg #[.int .i64 n1, .int .u32 d1], .agg #[.int .i64 n2, .int .u32 d2], v] w fun e w' => e = .returned (.bool true) ∧ Below w.heap.size w w' := by
  by_cases hn : n ≤ 6
  · have hs : ∀ i, i < n → sz (qv (N i) (D i)) ≤ 4 := fun i hi => by obtain ⟨a, b, c, d⟩ := HQB.out i hi; exact sz_qv _ _ a b c d
    have h5 := sz_qsum (fun i => qv (N i) (D i)) n 4 hs n (Nat.le_refl _)
    exact order_main n1 d1 n2 d2 v n N D _ _ _ _ _ (fun i => qv (N i) (D i)) w h1_1 h2_1 h3_1 h4_1 h1_2 h2_2 h3_2 h4_2 HQ HQB hn (Lib.hid rfl) (Lib.hid rfl) (Lib.hid rfl) (Lib.hid rfl) (Lib.hid (qabs_nn _)) (Lib.hid (qabs_nn _)) (by rw [sz_qabs]; exact sz_qv n1 d1 h1_1 h2_1 h3_1 h4_1) (by rw [sz_qabs]; exact sz_qv n2 d2 h1_2 h2_2 h3_2 h4_2) (Lib.hid fun _ => rfl) (Lib.hid rfl) (by omega) (Lib.hid (fun i hi => Nat.le_trans (hs i hi) (by decide))) HT
  · exact order_big n1 d1 n2 d2 v n N D w HQ (by omega) HT

end Go.Proofs.YtaflakcemiilaaaGreatDoor
