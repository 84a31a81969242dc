
/- recons.Back. -/
import Derived.Test.YtobojnodohjiaaaGreatDoorRecB
namespace Go.Proofs.YtobojnodohjiaaaGreatDoor
open Go.RowKit
set_option linter.unusedSimpArgs false
set_option linter.unusedVariables false
attribute [local go_sem ↓] Go.wp_at_zero Go.wp_at_succ
attribute [local go_sem ↓] eq_nat eq_nat_zero eq_int
attribute [local go_sem ↓] eq_nat eq_nat_zero eq_frac eq_frac_zero
theorem bki_wl {a x y u v s : Int} {m k : Nat} (h : bki a ((m : Nat) : Int) x y u v s) (hk : wl m ≤ k) : wl x.natAbs ≤ k ∧ wl y.natAbs ≤ k ∧ wl u.natAbs ≤ k ∧ wl v.natAbs ≤ k := by
  obtain ⟨hs, h0, y0, yx, xm, dy, dx, hv, hu, hx, ub, vb⟩ := h
  refine ⟨Nat.le_trans (wl_mono ?_) hk, Nat.le_trans (wl_mono ?_) hk, Nat.le_trans (wl_mono ?_) hk, Nat.le_trans (wl_mono ?_) hk⟩ <;> omega
theorem bki_sq {y : Int} {m : Nat} (h : ¬ 2 * (y.natAbs * y.natAbs) < m) : ((m : Nat) : Int) ≤ 2 * (y * y) := by
  have e : ((y.natAbs * y.natAbs : Nat) : Int) = y * y := by
    rw [Int.natCast_mul]
    rcases Int.natAbs_eq y with e | e
    · rw [← e]
    · have e2 : (y.natAbs : Int) = -y := by omega
      rw [e2, Int.neg_mul_neg]
  omega
theorem bki_dec {a m x y u v s : Int} (h : bki a m x y u v s) : y.natAbs < x.natAbs ∧ 0 ≤ y := by
  obtain ⟨hs, h0, y0, yx, xm, dy, dx, hv, hu, hx, ub, vb⟩ := h
  omega

set_option maxRecDepth 20000 in
set_option maxHeartbeats 4000000 in
theorem rdown_any (q a b p z : Int) (w : World) (HP : Hid (q * b = p)) (HZ : Hid (a - p = z)) (hwq : wl q.natAbs ≤ 1300) (hwa : wl a.natAbs ≤ 1300) (hwb : wl b.natAbs ≤ 1300) :
    Calls Tryz.prog 97 #[(Value.agg #[.int .u64 ((lo (Int.natAbs (q)) : Nat) : Int), .string (bg (Int.natAbs (q))), .bool (decide ((q) < 0))]), (Value.agg #[.int .u64 ((lo (Int.natAbs (a)) : Nat) : Int), .string (bg (Int.natAbs (a))), .bool (decide ((a) < 0))]), (Value.agg #[.int .u64 ((lo (Int.natAbs (b)) : Nat) : Int), .string (bg (Int.natAbs (b))), .bool (decide ((b) < 0))])] w fun e w' => e = .returned ((.tuple #[(Value.agg #[.int .u64 ((lo (Int.natAbs (b)) : Nat) : Int), .string (bg (Int.natAbs (b))), .bool (decide ((b) < 0))]), (Value.agg #[.int .u64 ((lo (Int.natAbs (z)) : Nat) : Int), .string (bg (Int.natAbs (z))), .bool (decide ((z) < 0))])])) ∧ Below w.heap.size w w' := by
  go_enter Tryz.func97, Tryz.ntmps97
  have HF := Lib.hid (hp0 w)
  refine kS fun K hK => ?_
  refine wp_region_lit ?_
  go_wp2
  refine hK.out _ _ ?_; clear hK K
  show Code.wp _ _ _ _ _
  refine fH ((((((HF.out).al (b := w.heap.size) (by first | rfl | simp) (by decide)).al (b := w.heap.size + 1) (by first | rfl | simp) (by decide)).al (b := w.heap.size + 1 + 1) (by first | rfl | simp) (by decide)).al (b := w.heap.size + 1 + 1 + 1) (by first | rfl | simp) (by decide)).al (b := w.heap.size + 1 + 1 + 1 + 1) (by first | rfl | simp) (by decide)) fun Wx0 HG => ?_
  clear HF; have HF := HG; clear HG
  generalize w.heap.size + 1 + 1 + 1 + 1 = gx4 at *
  generalize w.heap.size + 1 + 1 + 1 = gx3 at *
  generalize w.heap.size + 1 + 1 = gx2 at *
  generalize w.heap.size + 1 = gx1 at *
  have HZ1 : Hid ((q) * (b) = p) := Lib.hid (HP.out)
  have su1 : wl (Int.natAbs (p)) ≤ 2600 := by have e := HZ1.out; first | omega | (rw [← e]; have := wl_imul (q) (b); omega)
  have HZ2 : Hid ((a) - (p) = z) := Lib.hid (HZ.out)
  have su2 : wl (Int.natAbs (z)) ≤ 2601 := by have e := HZ2.out; first | omega | (rw [← e]; have := wl_isub (a) (p); omega)
  have lx0 := HF.out.c 0 rfl
  have lx1 := HF.out.c 1 rfl
  have lx2 := HF.out.c 2 rfl
  refine kS fun K hK => ?_
  refine pd 6 [(true, 0), (true, 1), (true, 2), (true, 3), (true, 4), (true, 5)] fun T hT => ?_
  iterate 4 refine tk ?_
  refine ck Tryz.call39 (fun w' hw => zimul (q) (b) (p) _ HZ1.out om om) ?_
  refine ck Tryz.call98 (fun w' hw => zisub (a) (p) (z) _ HZ2.out om om) ?_
  refine nlD hT HF fun vw1 HG => ?_
  clear hT T HF lx0 lx1 lx2
  have lx3 := HG.out.c 3 rfl; have fx3 := HG.out.f 3 rfl
  have lx4 := HG.out.c 4 rfl; have fx4 := HG.out.f 4 rfl
  have r0 := Gr.refl vw1
  obtain ⟨d3_4, d4_3⟩ := HG.out.ne 3 4 rfl rfl (by decide)
  go_wp2
  refine hK.out _ _ ?_; clear hK K
  show Code.wp _ _ _ _ _
  clear r0 lx3 fx3 lx4 fx4 d3_4 d4_3
  refine fH ((((((((HG.out).put2 3 0 rfl).put 3 2 _ rfl).put2 4 0 rfl).put 4 2 _ rfl).er 2).er 1).er 0) fun Wx1 HF => ?_
  clear HG
  refine wp_ret ?_
  try simp only [Exit.then, Exit.inBlock]
  have lx3 := HF.out.c 0 rfl
  have lx4 := HF.out.c 1 rfl
  have r0 := Gr.refl Wx1
  exact bodyPost_ret (v := .tuple #[(.agg #[.int .u64 ((lo (Int.natAbs (b)) : Nat) : Int), .string (bg (Int.natAbs (b))), .bool (decide ((b) < 0))]), (.agg #[.int .u64 ((lo (Int.natAbs (z)) : Nat) : Int), .string (bg (Int.natAbs (z))), .bool (decide ((z) < 0))])]) (by simp [results, Tryz.results97, go_sem, lx3 _ r0, lx4 _ r0]) rfl ⟨rfl, HF.out.1⟩

set_option maxRecDepth 20000 in
set_option maxHeartbeats 4000000 in
theorem rback_0 (a : Int) (m : Nat) (w : World) (HM0 : Hid (m = 0)) :
    Calls Tryz.prog 22 #[(Value.agg #[.int .u64 ((lo (Int.natAbs (a)) : Nat) : Int), .string (bg (Int.natAbs (a))), .bool (decide ((a) < 0))]), (Value.agg #[.int .u64 ((lo (m) : Nat) : Int), .string (bg (m))])] w fun e w' => e = .returned ((.tuple #[(.agg #[.int .u64 0, .string ⟨#[]⟩, .bool false, .int .u64 0, .string ⟨#[]⟩]), .bool false])) ∧ Below w.heap.size w w' := by
  go_enter Tryz.func22, Tryz.ntmps22
  have HF := Lib.hid (hp0 w)
  refine kS fun K hK => ?_
  refine wp_region_lit ?_
  go_wp2
  refine hK.out _ _ ?_; clear hK K
  show Code.wp _ _ _ _ _
  refine fH ((((HF.out).al (b := w.heap.size) (by first | rfl | simp) (by decide)).al (b := w.heap.size + 1) (by first | rfl | simp) (by decide)).al (b := w.heap.size + 1 + 1) (by first | rfl | simp) (by decide)) fun Wx0 HG => ?_
  clear HF; have HF := HG; clear HG
  generalize w.heap.size + 1 + 1 = gx2 at *
  generalize w.heap.size + 1 = gx1 at *
  refine wp_scope_straight ?_
  refine wp_seq ?_
  have hd1 : decide (m = 0) = true := decide_eq_true (by first | exact ok | exact HM0.out)
  have lx1 := HF.out.c 1 rfl
  refine kS fun K hK => ?_
  refine sq 3 [(true, 0), (true, 1), (true, 2)] fun T hT => ?_
  iterate 3 refine tk ?_
  refine nlS hT HF fun vw1 HG => ?_
  clear hT T HF lx1
  go_wp2
  refine hK.out _ _ ?_; clear hK K
  show Code.wp _ _ _ _ _
  have HF := HG; clear HG
  clear hd1
  refine wp_cond_true (by rfl) ?_
  refine kS fun K hK => ?_
  refine sq 1 [(true, 0)] fun T hT => ?_
  refine tk ?_
  refine nlS hT HF fun vw2 HG => ?_
  clear hT T HF
  have lx2 := HG.out.c 2 rfl; have fx2 := HG.out.f 2 rfl
  have r0 := Gr.refl vw2
  go_wp2
  refine hK.out _ _ ?_; clear hK K
  show Code.wp _ _ _ _ _
  clear r0 lx2 fx2
  refine fH ((((HG.out).put2 2 0 rfl).put2 2 2 rfl).put 2 4 _ rfl) fun Wx2 HF => ?_
  clear HG
  refine wp_ret ?_
  try simp only [Exit.then, Exit.inBlock, Exit.noGoto]
  have lx2 := HF.out.c 2 rfl
  have r0 := Gr.refl Wx2
  exact bodyPost_ret (v := .tuple #[(.agg #[.int .u64 0, .string ⟨#[]⟩, .bool false, .int .u64 0, .string ⟨#[]⟩]), .bool false]) (by simp [results, Tryz.results22, go_sem, lx2 _ r0]) rfl ⟨rfl, HF.out.1⟩

set_option maxRecDepth 20000 in
set_option maxHeartbeats 4000000 in
theorem rback_1 (a y0 : Int) (m : Nat) (z : Rat) (b : Bool) (w : World) (HBK : Hid (bk a m z b)) (HY0 : Hid (a % ((m : Nat) : Int) = y0)) (HI0 : Hid (bki a ((m : Nat) : Int) ((m : Nat) : Int) y0 0 1 1)) (hm0 : 0 < m) (hwa : wl a.natAbs ≤ 300) (hwm : wl m ≤ 300) :
    Calls Tryz.prog 22 #[(Value.agg #[.int .u64 ((lo (Int.natAbs (a)) : Nat) : Int), .string (bg (Int.natAbs (a))), .bool (decide ((a) < 0))]), (Value.agg #[.int .u64 ((lo (m) : Nat) : Int), .string (bg (m))])] w fun e w' => e = .returned ((.tuple #[(Value.agg #[.int .u64 ((lo (Int.natAbs ((z).num)) : Nat) : Int), .string (bg (Int.natAbs ((z).num))), .bool (decide (((z).num) < 0)), .int .u64 ((lo ((z).den - 1) : Nat) : Int), .string (bg ((z).den - 1))]), .bool b])) ∧ Below w.heap.size w w' := by
  go_enter Tryz.func22, Tryz.ntmps22
  have HF := Lib.hid (hp0 w)
  refine kS fun K hK => ?_
  refine wp_region_lit ?_
  go_wp2
  refine hK.out _ _ ?_; clear hK K
  show Code.wp _ _ _ _ _
  refine fH ((((HF.out).al (b := w.heap.size) (by first | rfl | simp) (by decide)).al (b := w.heap.size + 1) (by first | rfl | simp) (by decide)).al (b := w.heap.size + 1 + 1) (by first | rfl | simp) (by decide)) fun Wx0 HG => ?_
  clear HF; have HF := HG; clear HG
  generalize w.heap.size + 1 + 1 = gx2 at *
  generalize w.heap.size + 1 = gx1 at *
  refine wp_scope_straight ?_
  refine wp_seq ?_
  have hd1 : decide (m = 0) = false := decide_eq_false (ok)
  have lx1 := HF.out.c 1 rfl
  refine kS fun K hK => ?_
  refine sq 3 [(true, 0), (true, 1), (true, 2)] fun T hT => ?_
  iterate 3 refine tk ?_
  refine nlS hT HF fun vw1 HG => ?_
  clear hT T HF lx1
  go_wp2
  refine hK.out _ _ ?_; clear hK K
  show Code.wp _ _ _ _ _
  have HF := HG; clear HG
  clear hd1
  refine wp_cond_false (by rfl) ?_
  refine wp_skip ?_
  show Code.wp _ _ _ _ _
  have su1 : wl (Int.natAbs ((m : Nat) : Int)) ≤ 300 := by rw [Int.natAbs_natCast]; omega
  have HZ2 : Hid ((a) % ((m : Nat) : Int) = y0) := Lib.hid (HY0.out)
  have su2 : wl (Int.natAbs (y0)) ≤ 300 := by have e := HZ2.out; first | omega | (rw [← e]; exact wl_rmod (ok) om)
  have lx0 := HF.out.c 0 rfl
  have lx1 := HF.out.c 1 rfl
  refine kS fun K hK => ?_
  refine wp_region_plan 7 [5, 6] [] (fun i => if i = 5 then 6 else 7) (fun i => if i = 5 then .cells #[.int .u64 0, .string ⟨#[]⟩, .bool false] 34 else .cells #[.int .u64 0, .string ⟨#[]⟩, .bool false] 34) [(true, 0), (true, 2), (true, 3), (true, 1), (true, 4)] (by kernel_rfl) (by kernel_rfl) (by intro i hi; simp only [List.mem_cons, List.not_mem_nil, or_false] at hi; rcases hi with rfl | rfl <;> exact ⟨_, rfl, rfl, rfl, by simp, fun ρ w => by kernel_rfl⟩) (fun i hi => by cases hi) (fun _ _ _ _ _ h => h) (fun T hT => ?_)
  iterate 3 refine tk ?_
  refine ck Tryz.call95 (fun w' hw => rwhole_any (m) _) ?_
  refine ck Tryz.call96 (fun w' hw => rleft_any (a) (y0) (m) _ (Lib.hid HZ2.out) (ok) om om) ?_
  refine wpPlan_nil (hT.out _ _ ?_)
  intro G vw2 hg hf
  simp only [puts, Act.put, lA, lB, lC, lD, lE, ↓reduceIte, Nat.reduceEqDiff]
  have HG := Lib.hid (HF.out.fr hg hf (zs := [(#[.int .u64 0, .string ⟨#[]⟩, .bool false], 34), (#[.int .u64 0, .string ⟨#[]⟩, .bool false], 34)]) rfl (by decide) (by decide))
  simp only [List.zip_cons_cons, List.zip_nil_right, List.map_cons, List.map_nil, lF, lG] at HG
  clear hT T HF hg hf lx0 lx1
  generalize G 5 = gx4 at *
  generalize G 6 = gx5 at *
  have lx4 := HG.out.c 3 rfl; have fx4 := HG.out.f 3 rfl
  have lx5 := HG.out.c 4 rfl; have fx5 := HG.out.f 4 rfl
  have r0 := Gr.refl vw2
  obtain ⟨d4_5, d5_4⟩ := HG.out.ne 3 4 rfl rfl (by decide)
  go_wp2
  refine hK.out _ _ ?_; clear hK K
  show Code.wp _ _ _ _ _
  clear r0 lx4 fx4 lx5 fx5 d4_5 d5_4
  refine fH (((((HG.out).put2 3 0 rfl).put 3 2 _ rfl).put2 4 0 rfl).put 4 2 _ rfl) fun Wx3 HF => ?_
  clear HG
  have su3 : wl (Int.natAbs (0)) ≤ 1 := wl_le.2 (by decide +kernel)
  have su4 : wl (Int.natAbs (1)) ≤ 1 := wl_le.2 (by decide +kernel)
  refine kS fun K hK => ?_
  refine sq 2 [(true, 0), (true, 1)] fun T hT => ?_
  refine ck Tryz.call23 (fun w' hw => iof_any (0) _ (by decide) (by decide)) ?_
  refine ck Tryz.call23 (fun w' hw => iof_any (1) _ (by decide) (by decide)) ?_
  refine nlS hT HF fun vw3 HG => ?_
  clear hT T HF
  go_wp2
  refine hK.out _ _ ?_; clear hK K
  show Code.wp _ _ _ _ _
  refine fH (((HG.out).al (b := vw3.heap.size) (by first | rfl | simp) (by decide)).al (b := vw3.heap.size + 1) (by first | rfl | simp) (by decide)) fun Wx4 HF => ?_
  clear HG
  generalize vw3.heap.size + 1 = gx7 at *
  generalize vw3.heap.size = gx6 at *
  refine kS fun K hK => ?_
  refine wp_region_lit ?_
  go_wp2
  refine hK.out _ _ ?_; clear hK K
  show Code.wp _ _ _ _ _
  refine fH (HF.out) fun Wx5 HG => ?_
  clear HF; have HF := HG; clear HG
  refine wp_seq (wp_label ?_)
  show Code.wp _ _ _ _ _
  refine wp_seq ?_
  refine wp_block ?_
  go_loopg [] (Int.natAbs y0) (fun k wr => ∃ x y u v s : Int, Hid (bki a ((m : Nat) : Int) x y u v s) ∧ y.natAbs ≤ k ∧ Hid (HP w wr [Sum.inl (w.heap.size, 34, #[.int .u64 ((lo (Int.natAbs (a)) : Nat) : Int), .string (bg (Int.natAbs (a))), .bool (decide ((a) < 0))]), Sum.inl (gx1, 30, #[.int .u64 ((lo (m) : Nat) : Int), .string (bg (m))]), Sum.inl (gx2, 36, #[.int .u64 0, .string ⟨#[]⟩, .bool false, .int .u64 0, .string ⟨#[]⟩]), Sum.inl (gx4, 34, #[.int .u64 ((lo (Int.natAbs (x)) : Nat) : Int), .string (bg (Int.natAbs (x))), .bool (decide ((x) < 0))]), Sum.inl (gx5, 34, #[.int .u64 ((lo (Int.natAbs (y)) : Nat) : Int), .string (bg (Int.natAbs (y))), .bool (decide ((y) < 0))]), Sum.inl (gx6, 34, #[.int .u64 ((lo (Int.natAbs (u)) : Nat) : Int), .string (bg (Int.natAbs (u))), .bool (decide ((u) < 0))]), Sum.inl (gx7, 34, #[.int .u64 ((lo (Int.natAbs (v)) : Nat) : Int), .string (bg (Int.natAbs (v))), .bool (decide ((v) < 0))])]))
  case atStart => exact ⟨_, _, _, _, 1, HI0, Nat.le_refl _, HF⟩
  case round =>
    rename_i J_ K_ h1_ h0_
    clear HF
    obtain ⟨x, y, u, v, s, HI, hyk, HF⟩ := hrel
    obtain ⟨hwx, hwy, hwu, hwv⟩ := bki_wl HI.out hwm
    by_cases hf : 2 * (y.natAbs * y.natAbs) < m
    · have HFR := Lib.hid hf
      clear hf
      rcases (show v < 0 ∨ 0 < v from by have := bki_v0 HI.out; omega) with hv | hv
      · have HSG := Lib.hid hv
        obtain ⟨y', HY'⟩ : ∃ z, Hid (-y = z) := ⟨_, Lib.hid rfl⟩
        obtain ⟨v', HV'⟩ : ∃ z, Hid (-v = z) := ⟨_, Lib.hid rfl⟩
        obtain ⟨f, HFQ⟩ : ∃ z, Hid (mkRat y' (Int.natAbs v') = z) := ⟨_, Lib.hid rfl⟩
        have HD0 : Hid (0 < Int.natAbs v') := Lib.hid (by rw [← HV'.out]; omega)
        have HGO : Hid (∀ g, rfar g m → rfit g a m → f = g) := Lib.hid (fun g h1 h2 => by rw [← HFQ.out, ← HY'.out, ← HV'.out]; exact (bki_rat HI.out HFR.out h1 h2).2 HSG.out)
        clear hv
        refine wp_seq ?_
        have lx1 := HF.out.c 1 rfl
        have lx5 := HF.out.c 4 rfl
        refine kS fun K hK => ?_
        refine pd 4 [(true, 0), (true, 2), (true, 1), (true, 3)] fun T hT => ?_
        iterate 2 refine tk ?_
        refine ck Tryz.call100 (fun w' hw => abs_any (y) _) ?_
        refine ck Tryz.call99 (fun w' hw => rfar1 (Int.natAbs (y)) (m) true _ (decide_eq_true (HFR.out)) om om) ?_
        refine nlD hT HF fun vw4 HG => ?_
        clear hT T HF lx1 lx5
        go_wp2
        refine hK.out _ _ ?_; clear hK K
        show Code.wp _ _ _ _ _
        have HF := HG; clear HG
        refine wp_cond_false (by rfl) ?_
        refine wp_exit ?_
        show Code.wp _ _ _ _ _
        refine wp_seq ?_
        have lx7 := HF.out.c 6 rfl
        refine kS fun K hK => ?_
        refine sq 3 [(true, 0), (true, 1), (true, 2)] fun T hT => ?_
        refine tk ?_
        refine ck Tryz.call101 (fun w' hw => zisign (v) (-1) _ (by have e9 : (v) < (0 : Int) := (by exact HSG.out); exact sgI_lt e9)) ?_
        refine tk ?_
        refine nlS hT HF fun vw5 HG => ?_
        clear hT T HF lx7
        go_wp2
        refine hK.out _ _ ?_; clear hK K
        show Code.wp _ _ _ _ _
        refine fH (((HG.out).er 5).er 3) fun Wx11 HF => ?_
        clear HG
        refine wp_cond_true (by rfl) ?_
        have HZ5 : Hid (-(y) = y') := Lib.hid (HY'.out)
        have su5 : wl (Int.natAbs (y')) ≤ 300 := by have e := HZ5.out; first | omega | (rw [← e]; rw [Int.natAbs_neg]; omega)
        have HZ6 : Hid (-(v) = v') := Lib.hid (HV'.out)
        have su6 : wl (Int.natAbs (v')) ≤ 300 := by have e := HZ6.out; first | omega | (rw [← e]; rw [Int.natAbs_neg]; omega)
        have lx5 := HF.out.c 3 rfl
        have lx7 := HF.out.c 4 rfl
        refine kL fun K hK => ?_
        refine pd 4 [(true, 0), (true, 2), (true, 1), (true, 3)] fun T hT => ?_
        iterate 2 refine tk ?_
        refine ck Tryz.call44 (fun w' hw => zineg (y) (y') _ HZ5.out) ?_
        refine ck Tryz.call44 (fun w' hw => zineg (v) (v') _ HZ6.out) ?_
        refine nlD hT HF fun vw6 HG => ?_
        clear hT T HF lx5 lx7
        have lx5 := HG.out.c 3 rfl; have fx5 := HG.out.f 3 rfl
        have lx7 := HG.out.c 4 rfl; have fx7 := HG.out.f 4 rfl
        have r0 := Gr.refl vw6
        obtain ⟨d5_7, d7_5⟩ := HG.out.ne 3 4 rfl rfl (by decide)
        go_wp2
        refine hK.out _ _ ?_; clear hK K
        show Code.wp _ _ _ _ _
        clear r0 lx5 fx5 lx7 fx7 d5_7 d7_5
        refine fH (((((HG.out).put2 3 0 rfl).put 3 2 _ rfl).put2 4 0 rfl).put 4 2 _ rfl) fun Wx12 HF => ?_
        clear HG
        have HZ7 : Hid (mkRat (y') (Int.natAbs (v')) = f) := Lib.hid (HFQ.out)
        have su7 : sz (f) ≤ 300 := by have e := HZ7.out; first | omega | (rw [← e]; exact sz_mkRat (k := 300) om om (by decide))
        have lx5 := HF.out.c 3 rfl
        have lx7 := HF.out.c 4 rfl
        refine kS fun K hK => ?_
        refine wp_region_plan 8 [7] [6] (fun _ => 14) (fun _ => .cells #[.int .u64 0, .string ⟨#[]⟩, .bool false, .int .u64 0, .string ⟨#[]⟩] 36) [(true, 0), (true, 1), (true, 2), (true, 3), (true, 4), (true, 5), (true, 6)] (by kernel_rfl) (by kernel_rfl) (by intro i hi; simp only [List.mem_cons, List.not_mem_nil, or_false] at hi; rcases hi with rfl <;> exact ⟨_, rfl, rfl, rfl, by simp, fun ρ w => by kernel_rfl⟩) (by intro i hi; simp only [List.mem_cons, List.not_mem_nil, or_false] at hi; rcases hi with rfl <;> exact ⟨_, rfl, pure_extract⟩) (fun _ _ _ _ _ h => h) (fun T hT => ?_)
        iterate 2 refine tk ?_
        refine ck Tryz.call100 (fun w' hw => abs_any (v') _) ?_
        refine ck Tryz.call102 (fun w' hw => ffrom_ok (y') (Int.natAbs (v')) (f) _ (Lib.hid HZ7.out) (by exact HD0.out) om om) ?_
        iterate 3 refine tk ?_
        refine wpPlan_nil (hT.out _ _ ?_)
        intro G vw7 hg hf
        simp only [puts, Act.put, lA, lB, lC, lD, lE, ↓reduceIte, Nat.reduceEqDiff]
        have HG := Lib.hid (HF.out.fr hg hf (zs := [(#[.int .u64 0, .string ⟨#[]⟩, .bool false, .int .u64 0, .string ⟨#[]⟩], 36)]) rfl (by decide) (by decide))
        simp only [List.zip_cons_cons, List.zip_nil_right, List.map_cons, List.map_nil, lF, lG] at HG
        clear hT T HF hg hf lx5 lx7
        generalize G 7 = gx8 at *
        have lx8 := HG.out.c 5 rfl; have fx8 := HG.out.f 5 rfl
        have r0 := Gr.refl vw7
        go_wp2
        refine hK.out _ _ ?_; clear hK K
        show Code.wp _ _ _ _ _
        clear r0 lx8 fx8
        refine fH ((((((HG.out).put2 5 0 rfl).put2 5 2 rfl).put 5 4 _ rfl).er 4).er 3) fun Wx13 HF => ?_
        clear HG
        refine wp_seq ?_
        by_cases hfar : rfar f m
        · have HFA := Lib.hid hfar
          by_cases hfit : rfit f a m
          · obtain ⟨rfl, rfl⟩ : f = z ∧ true = b := by have e9 := bk_yes HBK.out hfar hfit; exact ⟨e9.1.symm, e9.2.symm⟩
            have HFI := Lib.hid hfit
            clear hfar hfit
            have lx0 := HF.out.c 0 rfl
            have lx1 := HF.out.c 1 rfl
            have lx8 := HF.out.c 3 rfl
            refine kS fun K hK => ?_
            refine sq 15 [(true, 0), (true, 1), (true, 2), (true, 3), (true, 4), (true, 5), (true, 6), (true, 7), (true, 8), (true, 9), (true, 10), (true, 11), (true, 12), (true, 13), (true, 14)] fun T hT => ?_
            iterate 5 refine tk ?_
            refine ck Tryz.call34 (fun w' hw => rFar (f) (m) true _ (decide_eq_true (HFA.out)) om om) ?_
            iterate 6 refine tk ?_
            refine ck Tryz.call33 (fun w' hw => rFits (f) (a) (m) true _ (decide_eq_true (HFI.out)) om om om) ?_
            iterate 2 refine tk ?_
            refine nlS hT HF fun vw8 HG => ?_
            clear hT T HF lx0 lx1 lx8
            go_wp2
            refine hK.out _ _ ?_; clear hK K
            show Code.wp _ _ _ _ _
            refine fH (((HG.out).er 1).er 0) fun Wx14 HF => ?_
            clear HG
            refine wp_cond_false (by rfl) ?_
            refine wp_skip ?_
            show Code.wp _ _ _ _ _
            have lx8 := HF.out.c 1 rfl
            refine kS fun K hK => ?_
            refine sq 1 [(true, 0)] fun T hT => ?_
            refine tk ?_
            refine nlS hT HF fun vw9 HG => ?_
            clear hT T HF lx8
            have lx2 := HG.out.c 0 rfl; have fx2 := HG.out.f 0 rfl
            have r0 := Gr.refl vw9
            go_wp2
            refine hK.out _ _ ?_; clear hK K
            show Code.wp _ _ _ _ _
            clear r0 lx2 fx2
            refine fH (((((HG.out).put2 0 0 rfl).put2 0 2 rfl).put 0 4 _ rfl).er 1) fun Wx16 HF => ?_
            clear HG
            refine wp_ret ?_
            try simp only [Exit.then, Exit.inBlock, Exit.noGoto]
            have lx2 := HF.out.c 0 rfl
            have r0 := Gr.refl Wx16
            exact bodyPost_ret (v := .tuple #[(.agg #[.int .u64 ((lo (Int.natAbs ((f).num)) : Nat) : Int), .string (bg (Int.natAbs ((f).num))), .bool (decide (((f).num) < 0)), .int .u64 ((lo ((f).den - 1) : Nat) : Int), .string (bg ((f).den - 1))]), .bool true]) (by simp [results, Tryz.results22, go_sem, lx2 _ r0]) rfl ⟨rfl, HF.out.1⟩
          · obtain ⟨rfl, rfl⟩ : (0 : Rat) = z ∧ false = b := by have e9 := bk_no HBK.out HGO.out (fun h => hfit h.2); exact ⟨e9.1.symm, e9.2.symm⟩
            have HFI := Lib.hid hfit
            clear hfar hfit
            have lx0 := HF.out.c 0 rfl
            have lx1 := HF.out.c 1 rfl
            have lx8 := HF.out.c 3 rfl
            refine kS fun K hK => ?_
            refine sq 15 [(true, 0), (true, 1), (true, 2), (true, 3), (true, 4), (true, 5), (true, 6), (true, 7), (true, 8), (true, 9), (true, 10), (true, 11), (true, 12), (true, 13), (true, 14)] fun T hT => ?_
            iterate 5 refine tk ?_
            refine ck Tryz.call34 (fun w' hw => rFar (f) (m) true _ (decide_eq_true (HFA.out)) om om) ?_
            iterate 6 refine tk ?_
            refine ck Tryz.call33 (fun w' hw => rFits (f) (a) (m) false _ (decide_eq_false (HFI.out)) om om om) ?_
            iterate 2 refine tk ?_
            refine nlS hT HF fun vw8 HG => ?_
            clear hT T HF lx0 lx1 lx8
            go_wp2
            refine hK.out _ _ ?_; clear hK K
            show Code.wp _ _ _ _ _
            refine fH (((HG.out).er 1).er 0) fun Wx14 HF => ?_
            clear HG
            refine wp_cond_true (by rfl) ?_
            refine kS fun K hK => ?_
            refine sq 1 [(true, 0)] fun T hT => ?_
            refine tk ?_
            refine nlS hT HF fun vw9 HG => ?_
            clear hT T HF
            have lx2 := HG.out.c 0 rfl; have fx2 := HG.out.f 0 rfl
            have r0 := Gr.refl vw9
            go_wp2
            refine hK.out _ _ ?_; clear hK K
            show Code.wp _ _ _ _ _
            clear r0 lx2 fx2
            refine fH ((((HG.out).put2 0 0 rfl).put2 0 2 rfl).put 0 4 _ rfl) fun Wx15 HF => ?_
            clear HG
            refine wp_ret ?_
            try simp only [Exit.then, Exit.inBlock, Exit.noGoto]
            have lx2 := HF.out.c 0 rfl
            have r0 := Gr.refl Wx15
            exact bodyPost_ret (v := .tuple #[(.agg #[.int .u64 0, .string ⟨#[]⟩, .bool false, .int .u64 0, .string ⟨#[]⟩]), .bool false]) (by simp [results, Tryz.results22, go_sem, lx2 _ r0]) rfl ⟨rfl, HF.out.1⟩
        · obtain ⟨rfl, rfl⟩ : (0 : Rat) = z ∧ false = b := by have e9 := bk_no HBK.out HGO.out (fun h => hfar h.1); exact ⟨e9.1.symm, e9.2.symm⟩
          have HFA := Lib.hid hfar
          clear hfar
          have lx0 := HF.out.c 0 rfl
          have lx1 := HF.out.c 1 rfl
          have lx8 := HF.out.c 3 rfl
          refine kS fun K hK => ?_
          refine sq 15 [(true, 0), (true, 1), (true, 2), (true, 3), (true, 4), (true, 5), (true, 6), (true, 7), (true, 8), (true, 9), (true, 10), (true, 11), (true, 12), (true, 13), (true, 14)] fun T hT => ?_
          iterate 5 refine tk ?_
          refine ck Tryz.call34 (fun w' hw => rFar (f) (m) false _ (decide_eq_false (HFA.out)) om om) ?_
          iterate 3 refine tk ?_
          iterate 5 refine sk ?_
          refine tk ?_
          refine nlS hT HF fun vw8 HG => ?_
          clear hT T HF lx0 lx1 lx8
          go_wp2
          refine hK.out _ _ ?_; clear hK K
          show Code.wp _ _ _ _ _
          refine fH (((HG.out).er 1).er 0) fun Wx14 HF => ?_
          clear HG
          refine wp_cond_true (by rfl) ?_
          refine kS fun K hK => ?_
          refine sq 1 [(true, 0)] fun T hT => ?_
          refine tk ?_
          refine nlS hT HF fun vw9 HG => ?_
          clear hT T HF
          have lx2 := HG.out.c 0 rfl; have fx2 := HG.out.f 0 rfl
          have r0 := Gr.refl vw9
          go_wp2
          refine hK.out _ _ ?_; clear hK K
          show Code.wp _ _ _ _ _
          clear r0 lx2 fx2
          refine fH ((((HG.out).put2 0 0 rfl).put2 0 2 rfl).put 0 4 _ rfl) fun Wx15 HF => ?_
          clear HG
          refine wp_ret ?_
          try simp only [Exit.then, Exit.inBlock, Exit.noGoto]
          have lx2 := HF.out.c 0 rfl
          have r0 := Gr.refl Wx15
          exact bodyPost_ret (v := .tuple #[(.agg #[.int .u64 0, .string ⟨#[]⟩, .bool false, .int .u64 0, .string ⟨#[]⟩]), .bool false]) (by simp [results, Tryz.results22, go_sem, lx2 _ r0]) rfl ⟨rfl, HF.out.1⟩
      · have HSG := Lib.hid hv
        obtain ⟨f, HFQ⟩ : ∃ z, Hid (mkRat y (Int.natAbs v) = z) := ⟨_, Lib.hid rfl⟩
        have HD0 : Hid (0 < Int.natAbs v) := Lib.hid (by omega)
        have HGO : Hid (∀ g, rfar g m → rfit g a m → f = g) := Lib.hid (fun g h1 h2 => by rw [← HFQ.out]; exact (bki_rat HI.out HFR.out h1 h2).1 HSG.out)
        clear hv
        refine wp_seq ?_
        have lx1 := HF.out.c 1 rfl
        have lx5 := HF.out.c 4 rfl
        refine kS fun K hK => ?_
        refine pd 4 [(true, 0), (true, 2), (true, 1), (true, 3)] fun T hT => ?_
        iterate 2 refine tk ?_
        refine ck Tryz.call100 (fun w' hw => abs_any (y) _) ?_
        refine ck Tryz.call99 (fun w' hw => rfar1 (Int.natAbs (y)) (m) true _ (decide_eq_true (HFR.out)) om om) ?_
        refine nlD hT HF fun vw4 HG => ?_
        clear hT T HF lx1 lx5
        go_wp2
        refine hK.out _ _ ?_; clear hK K
        show Code.wp _ _ _ _ _
        have HF := HG; clear HG
        refine wp_cond_false (by rfl) ?_
        refine wp_exit ?_
        show Code.wp _ _ _ _ _
        refine wp_seq ?_
        have lx7 := HF.out.c 6 rfl
        refine kS fun K hK => ?_
        refine sq 3 [(true, 0), (true, 1), (true, 2)] fun T hT => ?_
        refine tk ?_
        refine ck Tryz.call101 (fun w' hw => zisign (v) (1) _ (by have e9 : (0 : Int) < (v) := (by exact HSG.out); exact sgI_gt e9)) ?_
        refine tk ?_
        refine nlS hT HF fun vw5 HG => ?_
        clear hT T HF lx7
        go_wp2
        refine hK.out _ _ ?_; clear hK K
        show Code.wp _ _ _ _ _
        refine fH (((HG.out).er 5).er 3) fun Wx11 HF => ?_
        clear HG
        refine wp_cond_false (by rfl) ?_
        refine wp_skip ?_
        show Code.wp _ _ _ _ _
        have HZ5 : Hid (mkRat (y) (Int.natAbs (v)) = f) := Lib.hid (HFQ.out)
        have su5 : sz (f) ≤ 300 := by have e := HZ5.out; first | omega | (rw [← e]; exact sz_mkRat (k := 300) om om (by decide))
        have lx5 := HF.out.c 3 rfl
        have lx7 := HF.out.c 4 rfl
        refine kS fun K hK => ?_
        refine wp_region_plan 8 [7] [6] (fun _ => 14) (fun _ => .cells #[.int .u64 0, .string ⟨#[]⟩, .bool false, .int .u64 0, .string ⟨#[]⟩] 36) [(true, 0), (true, 1), (true, 2), (true, 3), (true, 4), (true, 5), (true, 6)] (by kernel_rfl) (by kernel_rfl) (by intro i hi; simp only [List.mem_cons, List.not_mem_nil, or_false] at hi; rcases hi with rfl <;> exact ⟨_, rfl, rfl, rfl, by simp, fun ρ w => by kernel_rfl⟩) (by intro i hi; simp only [List.mem_cons, List.not_mem_nil, or_false] at hi; rcases hi with rfl <;> exact ⟨_, rfl, pure_extract⟩) (fun _ _ _ _ _ h => h) (fun T hT => ?_)
        iterate 2 refine tk ?_
        refine ck Tryz.call100 (fun w' hw => abs_any (v) _) ?_
        refine ck Tryz.call102 (fun w' hw => ffrom_ok (y) (Int.natAbs (v)) (f) _ (Lib.hid HZ5.out) (by exact HD0.out) om om) ?_
        iterate 3 refine tk ?_
        refine wpPlan_nil (hT.out _ _ ?_)
        intro G vw6 hg hf
        simp only [puts, Act.put, lA, lB, lC, lD, lE, ↓reduceIte, Nat.reduceEqDiff]
        have HG := Lib.hid (HF.out.fr hg hf (zs := [(#[.int .u64 0, .string ⟨#[]⟩, .bool false, .int .u64 0, .string ⟨#[]⟩], 36)]) rfl (by decide) (by decide))
        simp only [List.zip_cons_cons, List.zip_nil_right, List.map_cons, List.map_nil, lF, lG] at HG
        clear hT T HF hg hf lx5 lx7
        generalize G 7 = gx8 at *
        have lx8 := HG.out.c 5 rfl; have fx8 := HG.out.f 5 rfl
        have r0 := Gr.refl vw6
        go_wp2
        refine hK.out _ _ ?_; clear hK K
        show Code.wp _ _ _ _ _
        clear r0 lx8 fx8
        refine fH ((((((HG.out).put2 5 0 rfl).put2 5 2 rfl).put 5 4 _ rfl).er 4).er 3) fun Wx13 HF => ?_
        clear HG
        refine wp_seq ?_
        by_cases hfar : rfar f m
        · have HFA := Lib.hid hfar
          by_cases hfit : rfit f a m
          · obtain ⟨rfl, rfl⟩ : f = z ∧ true = b := by have e9 := bk_yes HBK.out hfar hfit; exact ⟨e9.1.symm, e9.2.symm⟩
            have HFI := Lib.hid hfit
            clear hfar hfit
            have lx0 := HF.out.c 0 rfl
            have lx1 := HF.out.c 1 rfl
            have lx8 := HF.out.c 3 rfl
            refine kS fun K hK => ?_
            refine sq 15 [(true, 0), (true, 1), (true, 2), (true, 3), (true, 4), (true, 5), (true, 6), (true, 7), (true, 8), (true, 9), (true, 10), (true, 11), (true, 12), (true, 13), (true, 14)] fun T hT => ?_
            iterate 5 refine tk ?_
            refine ck Tryz.call34 (fun w' hw => rFar (f) (m) true _ (decide_eq_true (HFA.out)) om om) ?_
            iterate 6 refine tk ?_
            refine ck Tryz.call33 (fun w' hw => rFits (f) (a) (m) true _ (decide_eq_true (HFI.out)) om om om) ?_
            iterate 2 refine tk ?_
            refine nlS hT HF fun vw7 HG => ?_
            clear hT T HF lx0 lx1 lx8
            go_wp2
            refine hK.out _ _ ?_; clear hK K
            show Code.wp _ _ _ _ _
            refine fH (((HG.out).er 1).er 0) fun Wx14 HF => ?_
            clear HG
            refine wp_cond_false (by rfl) ?_
            refine wp_skip ?_
            show Code.wp _ _ _ _ _
            have lx8 := HF.out.c 1 rfl
            refine kS fun K hK => ?_
            refine sq 1 [(true, 0)] fun T hT => ?_
            refine tk ?_
            refine nlS hT HF fun vw8 HG => ?_
            clear hT T HF lx8
            have lx2 := HG.out.c 0 rfl; have fx2 := HG.out.f 0 rfl
            have r0 := Gr.refl vw8
            go_wp2
            refine hK.out _ _ ?_; clear hK K
            show Code.wp _ _ _ _ _
            clear r0 lx2 fx2
            refine fH (((((HG.out).put2 0 0 rfl).put2 0 2 rfl).put 0 4 _ rfl).er 1) fun Wx16 HF => ?_
            clear HG
            refine wp_ret ?_
            try simp only [Exit.then, Exit.inBlock, Exit.noGoto]
            have lx2 := HF.out.c 0 rfl
            have r0 := Gr.refl Wx16
            exact bodyPost_ret (v := .tuple #[(.agg #[.int .u64 ((lo (Int.natAbs ((f).num)) : Nat) : Int), .string (bg (Int.natAbs ((f).num))), .bool (decide (((f).num) < 0)), .int .u64 ((lo ((f).den - 1) : Nat) : Int), .string (bg ((f).den - 1))]), .bool true]) (by simp [results, Tryz.results22, go_sem, lx2 _ r0]) rfl ⟨rfl, HF.out.1⟩
          · obtain ⟨rfl, rfl⟩ : (0 : Rat) = z ∧ false = b := by have e9 := bk_no HBK.out HGO.out (fun h => hfit h.2); exact ⟨e9.1.symm, e9.2.symm⟩
            have HFI := Lib.hid hfit
            clear hfar hfit
            have lx0 := HF.out.c 0 rfl
            have lx1 := HF.out.c 1 rfl
            have lx8 := HF.out.c 3 rfl
            refine kS fun K hK => ?_
            refine sq 15 [(true, 0), (true, 1), (true, 2), (true, 3), (true, 4), (true, 5), (true, 6), (true, 7), (true, 8), (true, 9), (true, 10), (true, 11), (true, 12), (true, 13), (true, 14)] fun T hT => ?_
            iterate 5 refine tk ?_
            refine ck Tryz.call34 (fun w' hw => rFar (f) (m) true _ (decide_eq_true (HFA.out)) om om) ?_
            iterate 6 refine tk ?_
            refine ck Tryz.call33 (fun w' hw => rFits (f) (a) (m) false _ (decide_eq_false (HFI.out)) om om om) ?_
            iterate 2 refine tk ?_
            refine nlS hT HF fun vw7 HG => ?_
            clear hT T HF lx0 lx1 lx8
            go_wp2
            refine hK.out _ _ ?_; clear hK K
            show Code.wp _ _ _ _ _
            refine fH (((HG.out).er 1).er 0) fun Wx14 HF => ?_
            clear HG
            refine wp_cond_true (by rfl) ?_
            refine kS fun K hK => ?_
            refine sq 1 [(true, 0)] fun T hT => ?_
            refine tk ?_
            refine nlS hT HF fun vw8 HG => ?_
            clear hT T HF
            have lx2 := HG.out.c 0 rfl; have fx2 := HG.out.f 0 rfl
            have r0 := Gr.refl vw8
            go_wp2
            refine hK.out _ _ ?_; clear hK K
            show Code.wp _ _ _ _ _
            clear r0 lx2 fx2
            refine fH ((((HG.out).put2 0 0 rfl).put2 0 2 rfl).put 0 4 _ rfl) fun Wx15 HF => ?_
            clear HG
            refine wp_ret ?_
            try simp only [Exit.then, Exit.inBlock, Exit.noGoto]
            have lx2 := HF.out.c 0 rfl
            have r0 := Gr.refl Wx15
            exact bodyPost_ret (v := .tuple #[(.agg #[.int .u64 0, .string ⟨#[]⟩, .bool false, .int .u64 0, .string ⟨#[]⟩]), .bool false]) (by simp [results, Tryz.results22, go_sem, lx2 _ r0]) rfl ⟨rfl, HF.out.1⟩
        · obtain ⟨rfl, rfl⟩ : (0 : Rat) = z ∧ false = b := by have e9 := bk_no HBK.out HGO.out (fun h => hfar h.1); exact ⟨e9.1.symm, e9.2.symm⟩
          have HFA := Lib.hid hfar
          clear hfar
          have lx0 := HF.out.c 0 rfl
          have lx1 := HF.out.c 1 rfl
          have lx8 := HF.out.c 3 rfl
          refine kS fun K hK => ?_
          refine sq 15 [(true, 0), (true, 1), (true, 2), (true, 3), (true, 4), (true, 5), (true, 6), (true, 7), (true, 8), (true, 9), (true, 10), (true, 11), (true, 12), (true, 13), (true, 14)] fun T hT => ?_
          iterate 5 refine tk ?_
          refine ck Tryz.call34 (fun w' hw => rFar (f) (m) false _ (decide_eq_false (HFA.out)) om om) ?_
          iterate 3 refine tk ?_
          iterate 5 refine sk ?_
          refine tk ?_
          refine nlS hT HF fun vw7 HG => ?_
          clear hT T HF lx0 lx1 lx8
          go_wp2
          refine hK.out _ _ ?_; clear hK K
          show Code.wp _ _ _ _ _
          refine fH (((HG.out).er 1).er 0) fun Wx14 HF => ?_
          clear HG
          refine wp_cond_true (by rfl) ?_
          refine kS fun K hK => ?_
          refine sq 1 [(true, 0)] fun T hT => ?_
          refine tk ?_
          refine nlS hT HF fun vw8 HG => ?_
          clear hT T HF
          have lx2 := HG.out.c 0 rfl; have fx2 := HG.out.f 0 rfl
          have r0 := Gr.refl vw8
          go_wp2
          refine hK.out _ _ ?_; clear hK K
          show Code.wp _ _ _ _ _
          clear r0 lx2 fx2
          refine fH ((((HG.out).put2 0 0 rfl).put2 0 2 rfl).put 0 4 _ rfl) fun Wx15 HF => ?_
          clear HG
          refine wp_ret ?_
          try simp only [Exit.then, Exit.inBlock, Exit.noGoto]
          have lx2 := HF.out.c 0 rfl
          have r0 := Gr.refl Wx15
          exact bodyPost_ret (v := .tuple #[(.agg #[.int .u64 0, .string ⟨#[]⟩, .bool false, .int .u64 0, .string ⟨#[]⟩]), .bool false]) (by simp [results, Tryz.results22, go_sem, lx2 _ r0]) rfl ⟨rfl, HF.out.1⟩
    · have HI2 := Lib.hid (bki_step HI.out (bki_sq hf))
      have HYN : Hid (y ≠ 0) := Lib.hid (fun e => by subst e; have := (bki_m HI.out).1; simp at hf; omega)
      have HNF := Lib.hid hf
      clear hf
      obtain ⟨q, HQ⟩ : ∃ z, Hid (x / y = z) := ⟨_, Lib.hid rfl⟩
      rw [HQ.out] at HI2
      obtain ⟨y2, HY2⟩ : ∃ z, Hid (x - q * y = z) := ⟨_, Lib.hid rfl⟩
      rw [HY2.out] at HI2
      obtain ⟨v2, HV2⟩ : ∃ z, Hid (u - q * v = z) := ⟨_, Lib.hid rfl⟩
      rw [HV2.out] at HI2
      obtain ⟨_, hwy2, _, hwv2⟩ := bki_wl HI2.out hwm
      refine wp_seq ?_
      have lx1 := HF.out.c 1 rfl
      have lx5 := HF.out.c 4 rfl
      refine kS fun K hK => ?_
      refine pd 4 [(true, 0), (true, 2), (true, 1), (true, 3)] fun T hT => ?_
      iterate 2 refine tk ?_
      refine ck Tryz.call100 (fun w' hw => abs_any (y) _) ?_
      refine ck Tryz.call99 (fun w' hw => rfar1 (Int.natAbs (y)) (m) false _ (decide_eq_false (by have e9 := HNF.out; exact e9)) om om) ?_
      refine nlD hT HF fun vw4 HG => ?_
      clear hT T HF lx1 lx5
      go_wp2
      refine hK.out _ _ ?_; clear hK K
      show Code.wp _ _ _ _ _
      have HF := HG; clear HG
      refine wp_cond_true (by rfl) ?_
      refine wp_skip ?_
      show Code.wp _ _ _ _ _
      refine wp_block ?_
      have HZ5 : Hid ((x) / (y) = q) := Lib.hid (HQ.out)
      have su5 : wl (Int.natAbs (q)) ≤ 301 := by have e := HZ5.out; first | omega | (rw [← e]; have := wl_idiv (x) (y); omega)
      have HZ6 : Hid ((x) % (y) = (x % y)) := Lib.hid (rfl)
      have su6 : wl (Int.natAbs ((x % y))) ≤ 300 := by have := wl_imod (x) (y) (by exact HYN.out); omega
      have lx4 := HF.out.c 3 rfl
      have lx5 := HF.out.c 4 rfl
      refine kS fun K hK => ?_
      refine sq 7 [(true, 0), (true, 1), (true, 2), (true, 3), (true, 4), (true, 5), (true, 6)] fun T hT => ?_
      iterate 2 refine tk ?_
      refine ck Tryz.call42 (fun w' hw => zidiv (x) (y) (q) ((x % y)) _ HZ5.out HZ6.out (by exact HYN.out) om om) ?_
      iterate 4 refine tk ?_
      refine nlS hT HF fun vw5 HG => ?_
      clear hT T HF lx4 lx5
      go_wp2
      refine hK.out _ _ ?_; clear hK K
      show Code.wp _ _ _ _ _
      refine fH (((HG.out).al (b := vw5.heap.size) (by first | rfl | simp) (by decide)).al (b := vw5.heap.size + 1) (by first | rfl | simp) (by decide)) fun Wx7 HF => ?_
      clear HG
      generalize vw5.heap.size + 1 = gx9 at *
      generalize vw5.heap.size = gx8 at *
      refine wp_seq ?_
      refine kS fun K hK => ?_
      refine sq 2 [(true, 0), (true, 1)] fun T hT => ?_
      iterate 2 refine tk ?_
      refine nlS hT HF fun vw6 HG => ?_
      clear hT T HF
      go_wp2
      refine hK.out _ _ ?_; clear hK K
      show Code.wp _ _ _ _ _
      have HF := HG; clear HG
      refine wp_cond_false (by rfl) ?_
      refine wp_skip ?_
      show Code.wp _ _ _ _ _
      have HZ7 : Hid ((x) - (q) * (y) = y2) := Lib.hid (HY2.out)
      have su7 : wl (Int.natAbs (y2)) ≤ 300 := by have e := HZ7.out; first | omega | (rw [← e]; have e1 := wl_imul (q) (y); have e2 := wl_isub (x) ((q) * (y)); omega)
      have lx4 := HF.out.c 3 rfl
      have lx5 := HF.out.c 4 rfl
      have lx8 := HF.out.c 7 rfl
      refine kS fun K hK => ?_
      refine sq 8 [(true, 0), (true, 1), (true, 2), (true, 3), (true, 4), (true, 5), (true, 6), (true, 7)] fun T hT => ?_
      iterate 4 refine tk ?_
      refine wpPlan_callV rfl (by rfl) (by rfl) Tryz.call97 (fun w' hw => rdown_any (q) (x) (y) _ (y2) _ (Lib.hid rfl) (Lib.hid HZ7.out) om om om) (by rfl) ?_
      simp only [Act.put, lA, lB, lC]
      iterate 3 refine tk ?_
      refine nlS hT HF fun vw7 HG => ?_
      clear hT T HF lx4 lx5 lx8
      have lx4 := HG.out.c 3 rfl; have fx4 := HG.out.f 3 rfl
      have lx5 := HG.out.c 4 rfl; have fx5 := HG.out.f 4 rfl
      have r0 := Gr.refl vw7
      obtain ⟨d4_5, d5_4⟩ := HG.out.ne 3 4 rfl rfl (by decide)
      go_wp2
      refine hK.out _ _ ?_; clear hK K
      show Code.wp _ _ _ _ _
      clear r0 lx4 fx4 lx5 fx5 d4_5 d5_4
      refine fH (((((HG.out).put2 3 0 rfl).put 3 2 _ rfl).put2 4 0 rfl).put 4 2 _ rfl) fun Wx9 HF => ?_
      clear HG
      have HZ8 : Hid ((u) - (q) * (v) = v2) := Lib.hid (HV2.out)
      have su8 : wl (Int.natAbs (v2)) ≤ 300 := by have e := HZ8.out; first | omega | (rw [← e]; have e1 := wl_imul (q) (v); have e2 := wl_isub (u) ((q) * (v)); omega)
      have lx6 := HF.out.c 5 rfl
      have lx7 := HF.out.c 6 rfl
      have lx8 := HF.out.c 7 rfl
      refine kL fun K hK => ?_
      refine sq 8 [(true, 0), (true, 1), (true, 2), (true, 3), (true, 4), (true, 5), (true, 6), (true, 7)] fun T hT => ?_
      iterate 4 refine tk ?_
      refine wpPlan_callV rfl (by rfl) (by rfl) Tryz.call97 (fun w' hw => rdown_any (q) (u) (v) _ (v2) _ (Lib.hid rfl) (Lib.hid HZ8.out) om om om) (by rfl) ?_
      simp only [Act.put, lA, lB, lC]
      iterate 3 refine tk ?_
      refine nlS hT HF fun vw8 HG => ?_
      clear hT T HF lx6 lx7 lx8
      have lx6 := HG.out.c 5 rfl; have fx6 := HG.out.f 5 rfl
      have lx7 := HG.out.c 6 rfl; have fx7 := HG.out.f 6 rfl
      have r0 := Gr.refl vw8
      obtain ⟨d6_7, d7_6⟩ := HG.out.ne 5 6 rfl rfl (by decide)
      go_wp2
      refine hK.out _ _ ?_; clear hK K
      try simp only [Exit.then, Exit.inBlock]
      clear r0 lx6 fx6 lx7 fx7 d6_7 d7_6
      have HF := Lib.hid (((((HG.out).put2 (u1 := (.int .u64 ((lo (Int.natAbs (v)) : Nat) : Int))) (u2 := (.string (bg (Int.natAbs (v))))) 5 0 rfl).put 5 2 ((.bool (decide ((v) < 0)))) rfl).put2 (u1 := (.int .u64 ((lo (Int.natAbs (v2)) : Nat) : Int))) (u2 := (.string (bg (Int.natAbs (v2))))) 6 0 rfl).put 6 2 ((.bool (decide ((v2) < 0)))) rfl); clear HG
      refine h0_ _ _ ?_
      go_roundg (Int.natAbs y2)
      case measure => have h9 := bki_dec HI2.out; omega
      case rel => exact ⟨_, _, _, _, _, HI2, Nat.le_refl _, Lib.hid (((HF.out).er 8).er 7)⟩

theorem rback (a : Int) (m : Nat) (z : Rat) (b : Bool) (w : World) (h : bk a m z b) (ha : wl a.natAbs ≤ 300) (hm : wl m ≤ 300) :
    Calls Tryz.prog 22 #[(Value.agg #[.int .u64 ((lo (Int.natAbs (a)) : Nat) : Int), .string (bg (Int.natAbs (a))), .bool (decide ((a) < 0))]), (Value.agg #[.int .u64 ((lo (m) : Nat) : Int), .string (bg (m))])] w fun e w' => e = .returned (.tuple #[(Value.agg #[.int .u64 ((lo (Int.natAbs ((z).num)) : Nat) : Int), .string (bg (Int.natAbs ((z).num))), .bool (decide (((z).num) < 0)), .int .u64 ((lo ((z).den - 1) : Nat) : Int), .string (bg ((z).den - 1))]), .bool b]) ∧ Below w.heap.size w w' := by
  by_cases h0 : m = 0
  · obtain ⟨rfl, rfl⟩ : (0 : Rat) = z ∧ false = b := by subst h0; have e9 := bk_m0 h; exact ⟨e9.1.symm, e9.2.symm⟩
    exact rback_0 a m w (Lib.hid h0)
  · exact rback_1 a _ m z b w (Lib.hid h) (Lib.hid rfl) (Lib.hid (bki_0 (by omega))) (by omega) ha hm

end Go.Proofs.YtobojnodohjiaaaGreatDoor
